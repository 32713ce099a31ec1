/- The text of a value that is no table. Conditions: the library's tables lie as they are laid; bounds on the sizes. -/
import Derived.Test.YthmckfloppblcaaGreatDoorBj11
import Derived.Shelf.Strings.Replace
set_option maxRecDepth 100000
set_option maxHeartbeats 1000000
namespace Go.Proofs.YthmckfloppblcaaGreatDoor
open Go Go.RowKit

structure TxM (w:World):Prop extends Txt w where
 mx:∃ m,w.cell? ⟨2,0,none⟩=some (.int .i64 m)
theorem TxM.ext {w w':World} (h:TxM w) (hx:Ext w w'):TxM w':=⟨h.toTxt.ext hx,h.mx.imp fun _ h1=>hx.cell h1⟩
def dateL (n:Nat):List UInt8:=outL (civY n) (civMD n).1 (civMD n).2 5
theorem date_Text (n:Nat) (hn:n≤738999) (w:World) (hT:Txt w):Calls Tryz.prog 97 #[.int .i64 (n:Int)] w (RetTx w (bsA (dateL n))):=by
 obtain ⟨s,es⟩:∃ s,s=bsA (layD 0):=⟨_,rfl⟩;have hlit:(⟨#[89,89,89,89,45,77,77,45,68,68]⟩:ByteArray)=s:=(by rw [es]; rfl);obtain ⟨z,ez⟩:∃ z,z=bsA (dateL n):=⟨_,rfl⟩;have HF:=Hd (show Calls Tryz.prog 122 #[.string s,.int .i64 (n:Int)] w (RetSB w z true) from by rw [es,ez]; exact date_Format n hn w hT);rw [← ez];clear es ez hT
 go_enter Tryz.func97,Tryz.ntmps97
 go_wp2_with fail
 try rw [hlit]
 refine HF.o.mono ?_;rintro e2 w2 ⟨rfl,hx⟩;have HX:=Hd hx;clear hx
 go_wp2_with fail
 go_ret;exact ⟨rfl,HX.o⟩
def texL (x:Val):List UInt8 :=
 if x.kind=0 then 33 :: Lib.itoa x.n
 else if x.kind=1 then 39 :: (Lib.replaceAll x.s.data.toList [39] [39,39]++[39])
 else if x.kind=2 then 35 :: decL x.dn x.ds.toNat
 else if x.kind=3 then 64 :: dateL x.n.toNat
 else 63 :: Lib.itoa x.n
theorem decL_len {n:Int} {s:Nat} (h:decR n s=true):(decL n s).length≤5000:=by
 have hv:valD n s=(n,(s:Int)):=(by simp [valD,h]);have hrg:=valD_range n s;rw [hv] at hrg;have h1:=itoa_len n.natAbs (by omega);rw [Lib.itoa_nonneg] at h1;have h2:(decD n s).length≤60:=by
  unfold decD;rw [List.length_append,Lib.repeatL_length];simp;omega
 have h3:(decP n s).length≤200:=by
  unfold decP;split
  ·rw [List.length_append,List.length_append,List.length_take,List.length_drop];simp;omega
  ·omega
 unfold decL;split
 ·rw [List.length_cons];omega
 ·omega
theorem dateL_len {n:Nat} (h:n≤738999):(dateL n).length≤5000:=by
 have hc:=civ_le h;have:=(outL_len hc.1 hc.2.1 hc.2.2 5 (by omega)).1;unfold dateL;omega
theorem replaceK_len (old new:List UInt8):∀ (k:Nat) (s:List UInt8),(Lib.replaceK old new k s).length≤s.length+k*new.length
 | 0,s=>by simp [Lib.replaceK]
 | k+1,s=>by
  have h:=replaceK_len old new k (s.drop ((Lib.index s old).toNat+old.length));rw [List.length_drop] at h;rw [Nat.succ_mul];unfold Lib.replaceK;split
  ·omega
  ·rw [List.length_append,List.length_append,List.length_take];omega
theorem replaceAll_len (s:ByteArray) (h:s.size≤1000):(Lib.replaceAll s.data.toList [39] [39,39]).length≤5000:=by
 have h1:=Lib.countB_mul_le (⟨#[39]⟩:ByteArray) (by decide) s.size s (Nat.le_refl _);have h2:(⟨#[39]⟩:ByteArray).size=1:=rfl;rw [h2] at h1;have h3:Lib.countB s ⟨#[39]⟩=Lib.count s.data.toList [39]:=rfl;rw [h3] at h1;have h4:=replaceK_len [39] [39,39] (Lib.replaceNum s.data.toList [39] (-1)) s.data.toList;have h5:Lib.replaceNum s.data.toList [39] (-1)=Lib.count s.data.toList [39]:=by
  unfold Lib.replaceNum;rw [if_pos (.inl (by decide))]
 have h6:s.data.toList.length=s.size:=rfl;unfold Lib.replaceAll Lib.replace;rw [if_neg (by decide)];rw [h5] at h4 ⊢;rw [h6] at h4;have h7:[(39:UInt8),39].length=2:=rfl;rw [h7] at h4;omega
theorem str_ReplaceAll (s:ByteArray) (hs:s.size≤1000) (w:World) (h:TxM w):Calls Tryz.prog 95 #[.string s,.string ⟨#[39]⟩,.string ⟨#[39,39]⟩] w (RetTx w (bsA (Lib.replaceAll s.data.toList [39] [39,39]))):=by
 obtain ⟨m,hm⟩:=h.mx;exact Any.strings_ReplaceAll Tryz.lt155 Tryz.xt155 s ⟨#[39]⟩ ⟨#[39,39]⟩ m w (by omega) hm (by decide) (by have h1:=Lib.countB_mul_le (⟨#[39]⟩:ByteArray) (by decide) s.size s (Nat.le_refl _); have h2:(⟨#[39]⟩:ByteArray).size=1:=rfl; have h3:(⟨#[39,39]⟩:ByteArray).size=2:=rfl; rw [h2] at h1; rw [h3]; omega)
theorem value_Text_0 (x:Val) (A B:Option Addr) (c e:Nat) (w:World) (hk:x.kind=0) (hr:flatB x=true) (hs:x.s.size≤1000) (hT:TxM w):Calls Tryz.prog 67 #[(.agg #[.int .i64 x.kind,.string x.s,.int .i64 x.dn,.int .i64 x.ds,.int .i64 x.n,.slice A x.cols.length c,.slice B x.rows.length e])] w (RetTx w (bsA (texL x))):=by
 have HR:=Hd (show ∀ w',Calls Tryz.prog 63 #[(.agg #[.int .i64 x.kind,.string x.s,.int .i64 x.dn,.int .i64 x.ds,.int .i64 x.n,.slice A x.cols.length c,.slice B x.rows.length e])] w' (RetB w' true) from fun w'=>by have h:=value_Right_flat x A B c e w' (by omega) (by omega); rw [hr] at h; exact h);have hnr:0≤x.n∧x.n≤99:=by
  simp only [flatB,hk] at hr;simp at hr;omega
 obtain ⟨z,ez⟩:∃ z,z=bsA (Lib.itoa x.n):=⟨_,rfl⟩;have HC:=Hd (show ∀ w',TxM w'→Calls Tryz.prog 94 #[.int .i64 x.n] w' (RetTx w' z) from fun w' h=>by rw [ez]; exact str_Itoa x.n (by omega) (by omega) w' h.toTxt);have HL:=Hd (show ⟨#[33]⟩++z=bsA (texL x) from by
  unfold texL;rw [if_pos hk];rw [ez,show (⟨#[33]⟩:ByteArray)=bsA [33] from rfl,bsA_app];rfl)
 have hz:z.size≤5000:=(by rw [ez]; simp only [bsA,ByteArray.size,List.size_toArray]; exact by obtain ⟨u,hu⟩:∃ u:Nat,x.n=u:=⟨x.n.toNat,by omega⟩; rw [hu]; have:=itoa_len u (by omega); omega);clear ez;have HT:=Hd hT;have k0:(x.kind==0)=true:=(by simp [hk]);have k1:(x.kind==1)=false:=(by simp [hk]);have k2:(x.kind==2)=false:=(by simp [hk]);have k3:(x.kind==3)=false:=(by simp [hk]);have k4:(x.kind==4)=false:=(by simp [hk]);clear hk hr hT
 go_enter Tryz.func67,Tryz.ntmps67
 go_wp2_with fail
 refine (HR.o _).mono ?_;rintro e1 w1 ⟨rfl,hx1⟩;have HX1:=Hd (((Ext.refl w).alloc _).trans hx1);have hb1:=(Blk.new w 31 #[.int .i64 x.kind,.string x.s,.int .i64 x.dn,.int .i64 x.ds,.int .i64 x.n,.slice A x.cols.length c,.slice B x.rows.length e]).keep (hx1.kept _);have q0:=hb1.cell (i:=0) rfl;have q1:=hb1.cell (i:=1) rfl;have q2:=hb1.cell (i:=2) rfl;have q3:=hb1.cell (i:=3) rfl;have q4:=hb1.cell (i:=4) rfl;clear hx1 hb1
 go_wp2_with fail
 refine (HC.o _ (HT.o.ext HX1.o)).mono ?_;rintro e2 w2 ⟨rfl,hx2⟩;have HX2:=Hd (HX1.o.trans hx2);clear hx2 q0 q1 q2 q3 q4
 go_wp2_with fail
 go_ret;refine ⟨?_,HX2.o⟩;show Ending.returned (Value.string (⟨#[33]⟩++z))=_;rw [HL.o]
theorem value_Text_4 (x:Val) (A B:Option Addr) (c e:Nat) (w:World) (hk:x.kind=4) (hr:flatB x=true) (hs:x.s.size≤1000) (hT:TxM w):Calls Tryz.prog 67 #[(.agg #[.int .i64 x.kind,.string x.s,.int .i64 x.dn,.int .i64 x.ds,.int .i64 x.n,.slice A x.cols.length c,.slice B x.rows.length e])] w (RetTx w (bsA (texL x))):=by
 have HR:=Hd (show ∀ w',Calls Tryz.prog 63 #[(.agg #[.int .i64 x.kind,.string x.s,.int .i64 x.dn,.int .i64 x.ds,.int .i64 x.n,.slice A x.cols.length c,.slice B x.rows.length e])] w' (RetB w' true) from fun w'=>by have h:=value_Right_flat x A B c e w' (by omega) (by omega); rw [hr] at h; exact h);have hnr:0≤x.n∧x.n≤99:=by
  simp only [flatB,hk] at hr;simp at hr;omega
 obtain ⟨z,ez⟩:∃ z,z=bsA (Lib.itoa x.n):=⟨_,rfl⟩;have HC:=Hd (show ∀ w',TxM w'→Calls Tryz.prog 94 #[.int .i64 x.n] w' (RetTx w' z) from fun w' h=>by rw [ez]; exact str_Itoa x.n (by omega) (by omega) w' h.toTxt);have HL:=Hd (show ⟨#[63]⟩++z=bsA (texL x) from by
  unfold texL;rw [if_neg (by omega),if_neg (by omega),if_neg (by omega),if_neg (by omega)];rw [ez,show (⟨#[63]⟩:ByteArray)=bsA [63] from rfl,bsA_app];rfl)
 have hz:z.size≤5000:=(by rw [ez]; simp only [bsA,ByteArray.size,List.size_toArray]; exact by obtain ⟨u,hu⟩:∃ u:Nat,x.n=u:=⟨x.n.toNat,by omega⟩; rw [hu]; have:=itoa_len u (by omega); omega);clear ez;have HT:=Hd hT;have k0:(x.kind==0)=false:=(by simp [hk]);have k1:(x.kind==1)=false:=(by simp [hk]);have k2:(x.kind==2)=false:=(by simp [hk]);have k3:(x.kind==3)=false:=(by simp [hk]);have k4:(x.kind==4)=true:=(by simp [hk]);clear hk hr hT
 go_enter Tryz.func67,Tryz.ntmps67
 go_wp2_with fail
 refine (HR.o _).mono ?_;rintro e1 w1 ⟨rfl,hx1⟩;have HX1:=Hd (((Ext.refl w).alloc _).trans hx1);have hb1:=(Blk.new w 31 #[.int .i64 x.kind,.string x.s,.int .i64 x.dn,.int .i64 x.ds,.int .i64 x.n,.slice A x.cols.length c,.slice B x.rows.length e]).keep (hx1.kept _);have q0:=hb1.cell (i:=0) rfl;have q1:=hb1.cell (i:=1) rfl;have q2:=hb1.cell (i:=2) rfl;have q3:=hb1.cell (i:=3) rfl;have q4:=hb1.cell (i:=4) rfl;clear hx1 hb1
 go_wp2_with fail
 refine (HC.o _ (HT.o.ext HX1.o)).mono ?_;rintro e2 w2 ⟨rfl,hx2⟩;have HX2:=Hd (HX1.o.trans hx2);clear hx2 q0 q1 q2 q3 q4
 go_wp2_with fail
 go_ret;refine ⟨?_,HX2.o⟩;show Ending.returned (Value.string (⟨#[63]⟩++z))=_;rw [HL.o]
theorem value_Text_2 (x:Val) (A B:Option Addr) (c e:Nat) (w:World) (hk:x.kind=2) (hr:flatB x=true) (hs:x.s.size≤1000) (hT:TxM w):Calls Tryz.prog 67 #[(.agg #[.int .i64 x.kind,.string x.s,.int .i64 x.dn,.int .i64 x.ds,.int .i64 x.n,.slice A x.cols.length c,.slice B x.rows.length e])] w (RetTx w (bsA (texL x))):=by
 have HR:=Hd (show ∀ w',Calls Tryz.prog 63 #[(.agg #[.int .i64 x.kind,.string x.s,.int .i64 x.dn,.int .i64 x.ds,.int .i64 x.n,.slice A x.cols.length c,.slice B x.rows.length e])] w' (RetB w' true) from fun w'=>by have h:=value_Right_flat x A B c e w' (by omega) (by omega); rw [hr] at h; exact h);have hdr:decR x.dn x.ds=true:=by
  simp only [flatB,hk] at hr;simp at hr;exact hr.1
 obtain ⟨sn,hsn⟩:∃ sn:Nat,x.ds=(sn:Int):=⟨x.ds.toNat,by simp [decR] at hdr; omega⟩;have hdr2:decR x.dn sn=true:=(by rw [← hsn]; exact hdr);have h9:x.ds.toNat=sn:=(by omega);obtain ⟨z,ez⟩:∃ z,z=bsA (decL x.dn x.ds.toNat):=⟨_,rfl⟩;have HC:=Hd (show ∀ w',TxM w'→Calls Tryz.prog 96 #[.agg #[.int .i64 x.dn,.int .i64 x.ds]] w' (RetTx w' z) from fun w' h=>by rw [ez]; exact (by rw [h9,hsn]; exact decimal_Text x.dn sn hdr2 w' h.toTxt));have HL:=Hd (show ⟨#[35]⟩++z=bsA (texL x) from by
  unfold texL;rw [if_neg (by omega),if_neg (by omega),if_pos hk];rw [ez,show (⟨#[35]⟩:ByteArray)=bsA [35] from rfl,bsA_app];rfl)
 have hz:z.size≤5000:=(by rw [ez]; simp only [bsA,ByteArray.size,List.size_toArray]; exact by rw [h9]; exact decL_len hdr2);clear ez hsn h9 hdr hdr2;have HT:=Hd hT;have k0:(x.kind==0)=false:=(by simp [hk]);have k1:(x.kind==1)=false:=(by simp [hk]);have k2:(x.kind==2)=true:=(by simp [hk]);have k3:(x.kind==3)=false:=(by simp [hk]);have k4:(x.kind==4)=false:=(by simp [hk]);clear hk hr hT
 go_enter Tryz.func67,Tryz.ntmps67
 go_wp2_with fail
 refine (HR.o _).mono ?_;rintro e1 w1 ⟨rfl,hx1⟩;have HX1:=Hd (((Ext.refl w).alloc _).trans hx1);have hb1:=(Blk.new w 31 #[.int .i64 x.kind,.string x.s,.int .i64 x.dn,.int .i64 x.ds,.int .i64 x.n,.slice A x.cols.length c,.slice B x.rows.length e]).keep (hx1.kept _);have q0:=hb1.cell (i:=0) rfl;have q1:=hb1.cell (i:=1) rfl;have q2:=hb1.cell (i:=2) rfl;have q3:=hb1.cell (i:=3) rfl;have q4:=hb1.cell (i:=4) rfl;clear hx1 hb1
 go_wp2_with fail
 refine (HC.o _ (HT.o.ext HX1.o)).mono ?_;rintro e2 w2 ⟨rfl,hx2⟩;have HX2:=Hd (HX1.o.trans hx2);clear hx2 q0 q1 q2 q3 q4
 go_wp2_with fail
 go_ret;refine ⟨?_,HX2.o⟩;show Ending.returned (Value.string (⟨#[35]⟩++z))=_;rw [HL.o]
theorem value_Text_3 (x:Val) (A B:Option Addr) (c e:Nat) (w:World) (hk:x.kind=3) (hr:flatB x=true) (hs:x.s.size≤1000) (hd:x.n≤738999) (hT:TxM w):Calls Tryz.prog 67 #[(.agg #[.int .i64 x.kind,.string x.s,.int .i64 x.dn,.int .i64 x.ds,.int .i64 x.n,.slice A x.cols.length c,.slice B x.rows.length e])] w (RetTx w (bsA (texL x))):=by
 have HR:=Hd (show ∀ w',Calls Tryz.prog 63 #[(.agg #[.int .i64 x.kind,.string x.s,.int .i64 x.dn,.int .i64 x.ds,.int .i64 x.n,.slice A x.cols.length c,.slice B x.rows.length e])] w' (RetB w' true) from fun w'=>by have h:=value_Right_flat x A B c e w' (by omega) (by omega); rw [hr] at h; exact h);obtain ⟨m,hm⟩:∃ m:Nat,x.n=(m:Int):=⟨x.n.toNat,by simp only [flatB,hk] at hr; simp at hr; omega⟩;have h9:x.n.toNat=m:=(by omega);obtain ⟨z,ez⟩:∃ z,z=bsA (dateL x.n.toNat):=⟨_,rfl⟩;have HC:=Hd (show ∀ w',TxM w'→Calls Tryz.prog 97 #[.int .i64 x.n] w' (RetTx w' z) from fun w' h=>by rw [ez]; exact (by rw [h9,hm]; exact date_Text m (by omega) w' h.toTxt));have HL:=Hd (show ⟨#[64]⟩++z=bsA (texL x) from by
  unfold texL;rw [if_neg (by omega),if_neg (by omega),if_neg (by omega),if_pos hk];rw [ez,show (⟨#[64]⟩:ByteArray)=bsA [64] from rfl,bsA_app];rfl)
 have hz:z.size≤5000:=(by rw [ez]; simp only [bsA,ByteArray.size,List.size_toArray]; exact by rw [h9]; exact dateL_len (by omega));clear ez hm h9 hd;have HT:=Hd hT;have k0:(x.kind==0)=false:=(by simp [hk]);have k1:(x.kind==1)=false:=(by simp [hk]);have k2:(x.kind==2)=false:=(by simp [hk]);have k3:(x.kind==3)=true:=(by simp [hk]);have k4:(x.kind==4)=false:=(by simp [hk]);clear hk hr hT
 go_enter Tryz.func67,Tryz.ntmps67
 go_wp2_with fail
 refine (HR.o _).mono ?_;rintro e1 w1 ⟨rfl,hx1⟩;have HX1:=Hd (((Ext.refl w).alloc _).trans hx1);have hb1:=(Blk.new w 31 #[.int .i64 x.kind,.string x.s,.int .i64 x.dn,.int .i64 x.ds,.int .i64 x.n,.slice A x.cols.length c,.slice B x.rows.length e]).keep (hx1.kept _);have q0:=hb1.cell (i:=0) rfl;have q1:=hb1.cell (i:=1) rfl;have q2:=hb1.cell (i:=2) rfl;have q3:=hb1.cell (i:=3) rfl;have q4:=hb1.cell (i:=4) rfl;clear hx1 hb1
 go_wp2_with fail
 refine (HC.o _ (HT.o.ext HX1.o)).mono ?_;rintro e2 w2 ⟨rfl,hx2⟩;have HX2:=Hd (HX1.o.trans hx2);clear hx2 q0 q1 q2 q3 q4
 go_wp2_with fail
 go_ret;refine ⟨?_,HX2.o⟩;show Ending.returned (Value.string (⟨#[64]⟩++z))=_;rw [HL.o]
theorem value_Text_1 (x:Val) (A B:Option Addr) (c e:Nat) (w:World) (hk:x.kind=1) (hr:flatB x=true) (hs:x.s.size≤1000) (hT:TxM w):Calls Tryz.prog 67 #[(.agg #[.int .i64 x.kind,.string x.s,.int .i64 x.dn,.int .i64 x.ds,.int .i64 x.n,.slice A x.cols.length c,.slice B x.rows.length e])] w (RetTx w (bsA (texL x))):=by
 have HR:=Hd (show ∀ w',Calls Tryz.prog 63 #[(.agg #[.int .i64 x.kind,.string x.s,.int .i64 x.dn,.int .i64 x.ds,.int .i64 x.n,.slice A x.cols.length c,.slice B x.rows.length e])] w' (RetB w' true) from fun w'=>by have h:=value_Right_flat x A B c e w' (by omega) (by omega); rw [hr] at h; exact h);obtain ⟨z,ez⟩:∃ z,z=bsA (Lib.replaceAll x.s.data.toList [39] [39,39]):=⟨_,rfl⟩;have HC:=Hd (show ∀ w',TxM w'→Calls Tryz.prog 95 #[.string x.s,.string ⟨#[39]⟩,.string ⟨#[39,39]⟩] w' (RetTx w' z) from fun w' h=>by rw [ez]; exact str_ReplaceAll x.s hs w' h);have HL:=Hd (show ⟨#[39]⟩++z++⟨#[39]⟩=bsA (texL x) from by
  unfold texL;rw [if_neg (by omega),if_pos hk];rw [ez,show (⟨#[39]⟩:ByteArray)=bsA [39] from rfl,bsA_app,bsA_app];rfl)
 have hz:z.size≤5000:=(by rw [ez]; simp only [bsA,ByteArray.size,List.size_toArray]; exact replaceAll_len x.s hs);clear ez;have HT:=Hd hT;have k0:(x.kind==0)=false:=(by simp [hk]);have k1:(x.kind==1)=true:=(by simp [hk]);have k2:(x.kind==2)=false:=(by simp [hk]);have k3:(x.kind==3)=false:=(by simp [hk]);have k4:(x.kind==4)=false:=(by simp [hk]);clear hk hr hT
 go_enter Tryz.func67,Tryz.ntmps67
 go_wp2_with fail
 refine (HR.o _).mono ?_;rintro e1 w1 ⟨rfl,hx1⟩;have HX1:=Hd (((Ext.refl w).alloc _).trans hx1);have hb1:=(Blk.new w 31 #[.int .i64 x.kind,.string x.s,.int .i64 x.dn,.int .i64 x.ds,.int .i64 x.n,.slice A x.cols.length c,.slice B x.rows.length e]).keep (hx1.kept _);have q0:=hb1.cell (i:=0) rfl;have q1:=hb1.cell (i:=1) rfl;have q2:=hb1.cell (i:=2) rfl;have q3:=hb1.cell (i:=3) rfl;have q4:=hb1.cell (i:=4) rfl;clear hx1 hb1
 go_wp2_with fail
 refine (HC.o _ (HT.o.ext HX1.o)).mono ?_;rintro e2 w2 ⟨rfl,hx2⟩;have HX2:=Hd (HX1.o.trans hx2);clear hx2 q0 q1 q2 q3 q4
 go_wp2_with fail
 go_ret;refine ⟨?_,HX2.o⟩;show Ending.returned (Value.string (⟨#[39]⟩++z++⟨#[39]⟩))=_;rw [HL.o]
theorem value_Text (x:Val) (A B:Option Addr) (c e:Nat) (w:World) (_h5:x.kind≠5) (hr:flatB x=true) (hs:x.s.size≤1000) (hd:x.kind=3→x.n≤738999) (hT:TxM w):Calls Tryz.prog 67 #[(.agg #[.int .i64 x.kind,.string x.s,.int .i64 x.dn,.int .i64 x.ds,.int .i64 x.n,.slice A x.cols.length c,.slice B x.rows.length e])] w (RetTx w (bsA (texL x))):=by
 by_cases h0:x.kind=0
 ·exact value_Text_0 x A B c e w h0 hr hs hT
 by_cases h1:x.kind=1
 ·exact value_Text_1 x A B c e w h1 hr hs hT
 by_cases h2:x.kind=2
 ·exact value_Text_2 x A B c e w h2 hr hs hT
 by_cases h3:x.kind=3
 ·exact value_Text_3 x A B c e w h3 hr hs (hd h3) hT
 by_cases h4:x.kind=4
 ·exact value_Text_4 x A B c e w h4 hr hs hT
 simp [flatB,h0,h1,h2,h3,h4] at hr

theorem table_different (l:List ByteArray) (A:Option Addr) (ca:Nat) (w:World) (S:Nat→Prop) (hA:Strs w S A l) :
  Calls Tryz.prog 44 #[.slice A l.length ca] w (RetB w (decide l.Nodup)):=by
 have hal:=hA.2.1;have HA:=Hd hA;clear hA;have hmm:=@run_makeMap Tryz.prog
 go_enter Tryz.func44,Tryz.ntmps44
 go_wp2;clear hmm;have HSET:=Hd (show SetIs (w.alloc (.map #[] 0)) w.heap.size [] from MapIs.made w _)
 go_loopw [9] (fun i wr=>∃ (k:Nat) (ks:List ByteArray),k≤l.length∧i=.int .i64 k∧Ext w wr∧SetIs wr w.heap.size ks∧ks.length≤k∧(ks.length=k↔(l.take k).Nodup)∧(∀ x,x∈ks↔x∈l.take k)) (fun i _=>l.length-(intOf i).toNat)
 case atStart=>exact ⟨0,[],Nat.zero_le _,rfl,(Ext.refl w).alloc _,HSET.o,Nat.le_refl _,by simp,by simp⟩
 case round =>
  clear HSET;obtain ⟨k,ks,hk,rfl,hext,hset,h1,h2,h3⟩:=hrel;have HE:=Hd hext;have HS:=Hd hset;have H2:=Hd h2;have H3:=Hd h3;clear h2 h3;by_cases hlt:k<l.length
  ·obtain ⟨b1,o1,rfl,z1,c1⟩:=(HA.o.keep (hext.kept S)).at_ hlt;obtain ⟨w',ks',hup,hset',hg',hks⟩:=hset.put l[k];have HS':=Hd hset';have HG':=Hd hg';have HKS:=Hd hks;clear hset' hg' hks hext hset;go_wp2;go_roundw
   case rel =>
    have htk:l.take (k+1)=l.take k++[l[k]]:=List.take_succ_eq_append_getElem hlt;have hnd:(l.take (k+1)).Nodup↔(l.take k).Nodup∧l[k] ∉ l.take k:=by
     rw [htk,List.nodup_append];constructor
     ·rintro ⟨h1,_,h3⟩;exact ⟨h1,fun h=>h3 _ h _ (by simp) rfl⟩
     ·rintro ⟨h1,h2⟩;exact ⟨h1,by simp,fun a ha b hb e=>by simp at hb; subst hb; subst e; exact h2 ha⟩
    refine ⟨k+1,ks',by omega,by go_num,HE.o.grown HG'.out (fun b hb=>by injection hb with hb; omega),HS'.out,?_,?_,fun x => ?_⟩
    ·rcases HKS.o with ⟨_,rfl⟩ | ⟨_,rfl⟩
     ·omega
     ·simp; omega
    ·rw [hnd,← H2.o,← H3.o]
     rcases HKS.o with ⟨hm,rfl⟩ | ⟨hn,rfl⟩
     ·constructor
      ·intro h; omega
      ·rintro ⟨_,h⟩; exact absurd hm h
     ·simp only [List.length_append,List.length_singleton];constructor
      ·intro h; exact ⟨by omega,hn⟩
      ·rintro ⟨h,_⟩; omega
    ·rw [htk,List.mem_append,← H3.o]
     rcases HKS.o with ⟨hm,rfl⟩ | ⟨hn,rfl⟩
     ·constructor
      ·intro h; exact Or.inl h
      ·rintro (h | h)
       ·exact h
       ·simp at h; subst h; exact hm
     ·rw [List.mem_append]
   case measure=>simp [intOf]; omega
  ·obtain rfl:k=l.length:=by omega
   have hlen:=hset.len 3;have hnd:=H2.o;rw [List.take_of_length_le (Nat.le_refl _)] at hnd;have HND:=Hd hnd;clear hnd hext hset;go_wp2;go_ret;refine ⟨?_,HE.o⟩;by_cases hd:l.Nodup
   ·rw [decide_eq_true hd];have:=HND.o.2 hd;simp [this]
   ·rw [decide_eq_false hd];have:¬ ks.length=l.length:=fun e=>hd (HND.o.1 e);simp;omega

def idxI (l:List Int) (v:Int):Int:=idxF (fun x=>decide (v=x)) l
theorem slices_IndexI (A:Option Addr) (c:Nat) (l:List Int) (v:Int) (w:World) (S:Nat→Prop) (h:Ints w S A l) :
  Calls Tryz.prog 77 #[.slice A l.length c,.int .i64 v] w (SameI w (idxI l v)):=by
 have hn:=h.2
 go_enter Tryz.func77,Tryz.ntmps77
 go_wp2
 go_loop [8] (fun i=>∃ k:Nat,k≤l.length∧i=.int .i64 k∧∀ j (h:j<l.length),j<k→(fun x=>decide (v=x)) l[j]=false) (fun i=>l.length-(intOf i).toNat)
 case atStart=>exact ⟨0,Nat.zero_le _,rfl,by intros; omega⟩
 case round =>
  obtain ⟨k,hk,rfl,hall⟩:=hrel;have HA:=Hd hall;clear hall;by_cases hlt:k<l.length
  ·obtain ⟨b1,o1,rfl,z1,c1⟩:=h.at_ hlt;by_cases hv:v=l[k]
   ·have ht:(v==l[k])=true:=(by simp [hv]);have HV:=Hd (show decide (v=l[k])=true by simp [hv]);clear hv;go_wp2;go_ret;exact ⟨by unfold idxI; rw [idxF_found hlt HA.o HV.o]; rfl,rfl⟩
   ·have ht:(v==l[k])=false:=(by simp [hv]);have HV:=Hd (show decide (v=l[k])=false by simp [hv]);clear hv;go_wp2
    go_round
    case rel =>
     refine ⟨k+1,by omega,by go_num,fun j h hj => ?_⟩;by_cases hjk:j=k
     ·subst hjk; exact HV.o
     ·exact HA.o j h (by omega)
    case measure=>simp [intOf]; omega
  ·go_wp2;go_ret;exact ⟨by unfold idxI; rw [idxF_none (fun j hj=>HA.o j hj (by omega))]; rfl,rfl⟩
def memI (l:List Int) (v:Int):Bool:=l.any fun x=>decide (v=x)
theorem slices_ContainsI (A:Option Addr) (c:Nat) (l:List Int) (v:Int) (w:World) (S:Nat→Prop) (h:Ints w S A l) :
  Calls Tryz.prog 52 #[.slice A l.length c,.int .i64 v] w (SameB w (memI l v)):=by
 have H:=Hd h;clear h
 go_enter Tryz.func52,Tryz.ntmps52
 go_wp2_with (go_at_call 77; refine (slices_IndexI _ _ _ _ _ S H.o).mono ?_; rintro e w' ⟨rfl,rfl⟩)
 go_ret;exact ⟨by unfold memI; rw [← idxF_any]; rfl,rfl⟩
theorem table_contains1 (x:Int) (g:Nat) (A:Option Addr) (c:Nat) (l:List Int) (w:World) (S:Nat→Prop) (hb:w.cell? ⟨g,0,none⟩=some (.slice A l.length c)) (h:Ints w S A l) :
  Calls Tryz.prog 75 #[.int .i64 x,.pointer (some ⟨g,0,none⟩)] w (SameB w (!memI l x)):=by
 have H:=Hd h;clear h
 go_enter Tryz.func75,Tryz.ntmps75
 go_wp2_with (go_at_call 52; refine (slices_ContainsI _ _ _ _ _ S H.o).mono ?_; rintro e w' ⟨rfl,rfl⟩)
 go_ret;exact ⟨rfl,rfl⟩

theorem slices_IndexFuncI (l m:List Int) (A B:Option Addr) (c cb g:Nat) (w:World) (S T:Nat→Prop) (hl:Ints w S A l) (hb:w.cell? ⟨g,0,none⟩=some (.slice B m.length cb)) (h:Ints w T B m) :
  Calls Tryz.prog 108 #[.slice A l.length c,.func (.func 75) #[] #[.pointer (some ⟨g,0,none⟩)]] w (SameI w (idxF (fun x => !memI m x) l)):=by
 have hn:=hl.2;have HB:=Hd hb;have HS:=Hd h;clear hb h
 go_enter Tryz.func108,Tryz.ntmps108
 go_wp2
 go_loop [8] (fun i=>∃ k:Nat,k≤l.length∧i=.int .i64 k∧∀ j (h:j<l.length),j<k→(fun x => !memI m x) l[j]=false) (fun i=>l.length-(intOf i).toNat)
 case atStart=>exact ⟨0,Nat.zero_le _,rfl,by intros; omega⟩
 case round =>
  obtain ⟨k,hk,rfl,hall⟩:=hrel;have HA:=Hd hall;clear hall;by_cases hlt:k<l.length
  ·obtain ⟨b1,o1,rfl,z1,c1⟩:=hl.at_ hlt;cases hm:memI m l[k]
   ·have HM:=Hd hm;clear hm
    go_wp2_with (go_at_call 75; refine (table_contains1 _ g B cb m _ T HB.o HS.o).mono ?_; rintro e w' ⟨rfl,rfl⟩; rw [HM.o])
    go_ret;exact ⟨by rw [idxF_found hlt HA.o (by simp [HM.o])]; rfl,rfl⟩
   ·have HM:=Hd hm;clear hm
    go_wp2_with (go_at_call 75; refine (table_contains1 _ g B cb m _ T HB.o HS.o).mono ?_; rintro e w' ⟨rfl,rfl⟩; rw [HM.o])
    go_round
    case rel =>
     refine ⟨k+1,by omega,by go_num,fun j h hj => ?_⟩;by_cases hjk:j=k
     ·subst hjk; simp [HM.o]
     ·exact HA.o j h (by omega)
    case measure=>simp [intOf]; omega
  ·go_wp2;go_ret;exact ⟨by rw [idxF_none (fun j hj=>HA.o j hj (by omega))]; rfl,rfl⟩
theorem slices_ContainsFuncI (l m:List Int) (A B:Option Addr) (c cb g:Nat) (w:World) (S T:Nat→Prop) (hl:Ints w S A l) (hb:w.cell? ⟨g,0,none⟩=some (.slice B m.length cb)) (h:Ints w T B m) :
  Calls Tryz.prog 74 #[.slice A l.length c,.func (.func 75) #[] #[.pointer (some ⟨g,0,none⟩)]] w (SameB w (l.any fun x => !memI m x)):=by
 have HB:=Hd hb;have HS:=Hd h;have HL:=Hd hl;clear hb h hl
 go_enter Tryz.func74,Tryz.ntmps74
 go_wp2_with (go_at_call 108; refine (slices_IndexFuncI _ m _ B _ cb g _ S T HL.o HB.o HS.o).mono ?_; rintro e w' ⟨rfl,rfl⟩)
 go_ret;exact ⟨by rw [← idxF_any]; rfl,rfl⟩
def subI (l m:List Int):Bool:=!(l.any fun x => !memI m x)
theorem table_contains (l m:List Int) (A B:Option Addr) (c cb:Nat) (w:World) (S T:Nat→Prop) (hl:Ints w S A l) (h:Ints w T B m) :
  Calls Tryz.prog 50 #[.slice A l.length c,.slice B m.length cb] w (RetB w (subI l m)):=by
 have HS:=Hd h;have HL:=Hd hl;clear h hl
 go_enter Tryz.func50,Tryz.ntmps50
 go_wp2_with fail
 refine (slices_ContainsFuncI l m A B c cb w.heap.size _ S T (HL.o.keep (Kept.alloc _ _ _)) ((Blk.new w 22 #[.slice B m.length cb]).cell rfl) (HS.o.keep (Kept.alloc _ _ _))).mono ?_;rintro e w' ⟨rfl,rfl⟩;go_wp2;go_ret;exact ⟨rfl,(Ext.refl w).alloc _⟩
theorem table_Keys1 (l m:List Int) (A B:Option Addr) (c cb g:Nat) (w:World) (S T:Nat→Prop) (hl:Ints w S A l) (hb:w.cell? ⟨g,0,none⟩=some (.slice B m.length cb)) (h:Ints w T B m) :
  Calls Tryz.prog 49 #[.slice A l.length c,.pointer (some ⟨g,0,none⟩)] w (RetB w (subI l m)):=by
 have HS:=Hd h;have HL:=Hd hl;clear h hl
 go_enter Tryz.func49,Tryz.ntmps49
 go_wp2_with fail
 refine (table_contains l m A B c cb _ S T HL.o HS.o).mono ?_;rintro e w' ⟨rfl,hx⟩;have HX:=Hd hx;clear hx;go_wp2;go_ret;exact ⟨rfl,HX.o⟩
theorem table_isKey1 (gs l:List Int) (A B:Option Addr) (c cb g:Nat) (w:World) (S T:Nat→Prop) (hl:Ints w S A l) (hb:w.cell? ⟨g,0,none⟩=some (.slice B gs.length cb)) (h:Ints w T B gs) (hll:l.length=gs.length) :
  Calls Tryz.prog 76 #[.slice A l.length c,.pointer (some ⟨g,0,none⟩)] w (RetB w (!consB gs l)):=by
 have HS:=Hd h;have HL:=Hd hl;have HLL:=Hd hll;clear h hl hll
 go_enter Tryz.func76,Tryz.ntmps76
 go_wp2_with fail
 refine (table_decides gs l B A cb c _ T S HS.o HL.o HLL.o).mono ?_;rintro e w' ⟨rfl,hx⟩;have HX:=Hd hx;clear hx;go_wp2;go_ret;exact ⟨rfl,HX.o⟩

theorem slices_IndexFuncK (ls:List (List Int)) (m:List Int) (A B:Option Addr) (c cb g:Nat) (w:World) (S T:Nat→Prop) (hl:RIss w S A ls) (hb:w.cell? ⟨g,0,none⟩=some (.slice B m.length cb)) (h:Ints w T B m) :
  Calls Tryz.prog 73 #[.slice A ls.length c,.func (.func 49) #[] #[.pointer (some ⟨g,0,none⟩)]] w (RetI w (idxF (fun l=>subI l m) ls)):=by
 have hn:=hl.1;have HB:=Hd hb;have HS:=Hd h;have HLS:=Hd hl;clear hb h hl
 go_enter Tryz.func73,Tryz.ntmps73
 go_wp2
 go_loopw [8] (fun i wr=>∃ k:Nat,k≤ls.length∧i=.int .i64 k∧Ext w wr∧∀ j (h:j<ls.length),j<k→(fun l=>subI l m) ls[j]=false) (fun i _=>ls.length-(intOf i).toNat)
 case atStart=>exact ⟨0,Nat.zero_le _,rfl,Ext.refl _,by intros; omega⟩
 case round =>
  obtain ⟨k,hk,rfl,hext,hall⟩:=hrel;have HA:=Hd hall;have HE:=Hd hext;clear hall;by_cases hlt:k<ls.length
  ·obtain ⟨b1,o1,B2,c2,rfl,z1,p0,hcp,hint⟩:=(HLS.o.keep (hext.kept S)).at_ hlt;have HINT:=Hd hint;clear hint hext
   go_wp2_with fail
   refine (table_Keys1 ls[k] m B2 B c2 cb g _ S T HINT.o (HE.o.cell HB.o) (HS.o.keep (HE.o.kept T))).mono ?_;rintro e w1 ⟨rfl,hx1⟩;have HX1:=Hd (HE.o.trans hx1);clear hx1;cases hq:(subI ls[k] m)
   ·have HQ:=Hd hq;clear hq;go_wp2;go_roundw
    case rel =>
     refine ⟨k+1,by omega,by go_num,HX1.o,fun j h hj => ?_⟩;by_cases hjk:j=k
     ·subst hjk; exact HQ.o
     ·exact HA.o j h (by omega)
    case measure=>simp [intOf]; omega
   ·have HF:=Hd (idxF_found (p:=fun l=>subI l m) hlt HA.o hq);clear hq;go_wp2;go_ret;exact ⟨by rw [HF.o]; rfl,HX1.o⟩
  ·have HF:=Hd (idxF_none (p:=fun l=>subI l m) (l:=ls) (fun j h=>HA.o j h (by omega)));clear hext;go_wp2;go_ret;exact ⟨by rw [HF.o]; rfl,HE.o⟩
theorem slices_ContainsFuncK (ls:List (List Int)) (m:List Int) (A B:Option Addr) (c cb g:Nat) (w:World) (S T:Nat→Prop) (hl:RIss w S A ls) (hb:w.cell? ⟨g,0,none⟩=some (.slice B m.length cb)) (h:Ints w T B m) :
  Calls Tryz.prog 48 #[.slice A ls.length c,.func (.func 49) #[] #[.pointer (some ⟨g,0,none⟩)]] w (RetB w (ls.any fun l=>subI l m)):=by
 have HB:=Hd hb;have HS:=Hd h;have HLS:=Hd hl;clear hb h hl
 go_enter Tryz.func48,Tryz.ntmps48
 go_wp2_with fail
 refine (slices_IndexFuncK ls m A B c cb g _ S T HLS.o HB.o HS.o).mono ?_;rintro e w1 ⟨rfl,hx1⟩;have HX1:=Hd hx1;clear hx1;go_wp2;go_ret;exact ⟨by rw [← idxF_any]; rfl,HX1.o⟩

theorem slices_IndexFuncD (ls:List (List Int)) (m:List Int) (A B:Option Addr) (c cb g:Nat) (w:World) (S T:Nat→Prop) (hl:RIss w S A ls) (hb:w.cell? ⟨g,0,none⟩=some (.slice B m.length cb)) (h:Ints w T B m) (hll:∀ l∈ls,l.length=m.length) :
  Calls Tryz.prog 73 #[.slice A ls.length c,.func (.func 76) #[] #[.pointer (some ⟨g,0,none⟩)]] w (RetI w (idxF (fun l => !consB m l) ls)):=by
 have hn:=hl.1;have HB:=Hd hb;have HS:=Hd h;have HLS:=Hd hl;have HLL:=Hd hll;clear hll hb h hl
 go_enter Tryz.func73,Tryz.ntmps73
 go_wp2
 go_loopw [8] (fun i wr=>∃ k:Nat,k≤ls.length∧i=.int .i64 k∧Ext w wr∧∀ j (h:j<ls.length),j<k→(fun l => !consB m l) ls[j]=false) (fun i _=>ls.length-(intOf i).toNat)
 case atStart=>exact ⟨0,Nat.zero_le _,rfl,Ext.refl _,by intros; omega⟩
 case round =>
  obtain ⟨k,hk,rfl,hext,hall⟩:=hrel;have HA:=Hd hall;have HE:=Hd hext;clear hall;by_cases hlt:k<ls.length
  ·obtain ⟨b1,o1,B2,c2,rfl,z1,p0,hcp,hint⟩:=(HLS.o.keep (hext.kept S)).at_ hlt;have HINT:=Hd hint;clear hint hext
   go_wp2_with fail
   refine (table_isKey1 m ls[k] B2 B c2 cb g _ S T HINT.o (HE.o.cell HB.o) (HS.o.keep (HE.o.kept T)) (HLL.o _ (List.getElem_mem hlt))).mono ?_;rintro e w1 ⟨rfl,hx1⟩;have HX1:=Hd (HE.o.trans hx1);clear hx1;cases hq:(!consB m ls[k])
   ·have HQ:=Hd hq;clear hq;go_wp2;go_roundw
    case rel =>
     refine ⟨k+1,by omega,by go_num,HX1.o,fun j h hj => ?_⟩;by_cases hjk:j=k
     ·subst hjk; exact HQ.o
     ·exact HA.o j h (by omega)
    case measure=>simp [intOf]; omega
   ·have HF:=Hd (idxF_found (p:=fun l => !consB m l) hlt HA.o hq);clear hq;go_wp2;go_ret;exact ⟨by rw [HF.o]; rfl,HX1.o⟩
  ·have HF:=Hd (idxF_none (p:=fun l => !consB m l) (l:=ls) (fun j h=>HA.o j h (by omega)));clear hext;go_wp2;go_ret;exact ⟨by rw [HF.o]; rfl,HE.o⟩
theorem slices_ContainsFuncD (ls:List (List Int)) (m:List Int) (A B:Option Addr) (c cb g:Nat) (w:World) (S T:Nat→Prop) (hl:RIss w S A ls) (hb:w.cell? ⟨g,0,none⟩=some (.slice B m.length cb)) (h:Ints w T B m) (hll:∀ l∈ls,l.length=m.length) :
  Calls Tryz.prog 48 #[.slice A ls.length c,.func (.func 76) #[] #[.pointer (some ⟨g,0,none⟩)]] w (RetB w (ls.any fun l => !consB m l)):=by
 have HB:=Hd hb;have HS:=Hd h;have HLS:=Hd hl;have HLL:=Hd hll;clear hll hb h hl
 go_enter Tryz.func48,Tryz.ntmps48
 go_wp2_with fail
 refine (slices_IndexFuncD ls m A B c cb g _ S T HLS.o HB.o HS.o HLL.o).mono ?_;rintro e w1 ⟨rfl,hx1⟩;have HX1:=Hd hx1;clear hx1;go_wp2;go_ret;exact ⟨by rw [← idxF_any]; rfl,HX1.o⟩

def namesS (cols:List ByteArray) (set:List Int):List ByteArray:=set.map fun c=>cols.getD c.toNat ⟨#[]⟩
theorem table_names (cols:List ByteArray) (set:List Int) (A B:Option Addr) (ca cb:Nat) (w:World) (S T:Nat→Prop) (hA:Strs w S A cols) (hB:Ints w T B set) (hr:∀ c∈set,0≤c∧c<(cols.length:Int)) :
  Calls Tryz.prog 53 #[.slice A cols.length ca,.slice B set.length cb] w (RetSs w (namesS cols set)):=by
 have hal:=hA.2.1;have hbl:=hB.2;have HA:=Hd hA;have HB:=Hd hB;have HR:=Hd hr;clear hA hB hr;obtain ⟨cur,hmk,hcur⟩:=run_mk0 tiS set.length (by omega) (by decide);have HCUR:=Hd hcur;clear hcur;have hnl:(namesS cols set).length=set.length:=(by simp [namesS]);have HNL:=Hd hnl;have hns:∀ s∈namesS cols set,s.size≤4294967296:=by
  intro s hs;obtain ⟨c,hc,rfl⟩:=List.mem_map.1 hs;have:=HR.o c hc;rw [getD_of _ _ _ (by omega)];exact HA.o.sz (by omega)
 have HNS:=Hd hns;clear hnl hns
 go_enter Tryz.func53,Tryz.ntmps53
 go_wp2;clear hmk;have hst:OwnSs (w.alloc (.cells cur 9)) w.heap.size (some ⟨w.heap.size,0,none⟩) set.length ((namesS cols set).take 0):=by
  have:=Own.made w 9 1 set.length cur (by unfold maxLen; omega) HCUR.o;exact ⟨by simpa using this,by simp⟩
 have HST:=Hd hst;clear hst
 go_loopw [13,5] (fun i v wr=>∃ (m:Nat) (A':Option Addr) (c':Nat),m≤set.length∧i=.int .i64 m∧v=.slice A' m c'∧Ext w wr∧OwnSs wr w.heap.size A' c' ((namesS cols set).take m)) (fun i _ _=>set.length-(intOf i).toNat)
 case atStart=>exact ⟨0,_,_,Nat.zero_le _,rfl,rfl,(Ext.refl w).alloc _,HST.o⟩
 case round =>
  clear HST;obtain ⟨m,A',c',hm,rfl,rfl,hext,hown⟩:=hrel;have HE:=Hd hext;have HO:=Hd hown;clear hown;by_cases hlt:m<set.length
  ·obtain ⟨b1,o1,rfl,z1,c1⟩:=(HB.o.keep (hext.kept T)).at_ hlt;have hrm:=HR.o _ (List.getElem_mem hlt);obtain ⟨x,hx⟩:=Int.eq_ofNat_of_zero_le hrm.1;have hx2:x<cols.length:=(by omega);rw [hx] at c1;obtain ⟨b2,o2,rfl,z2,d1⟩:=(HA.o.keep (hext.kept S)).at_ hx2;have hval:(namesS cols set)[m]'(by rw [HNL.o]; exact hlt)=cols[x]:=by
    simp only [namesS,List.getElem_map,hx];rw [Int.toNat_natCast,getD_of _ _ _ hx2]
   have HVAL:=Hd hval;have hlm:((namesS cols set).take m).length=m:=(by rw [List.length_take,HNL.o]; omega);have hown:=(HO.o.ext ((Ext.refl wr).alloc (.cells #[.string cols[x]] 9))).1;rw [hlm] at hown;have HOWN:=Hd hown;have hszw:=HE.o.size;clear hval hlm hown hext hrm hx
   go_wp2_with (at_builtin; go_must (refine wpList_app rfl (.tmp 17) (.tmp 22) rfl tiS rfl HOWN.o rfl (Blk.rd (Blk.new _ _ _)) rfl (by simp [Value.oneCell']) (by omega) (by decide) (by simp; omega) ?_); intro A4 c4 w4 hown4 hg4 hat4)
   go_roundw
   case rel =>
    refine ⟨m+1,A4,c4,by omega,by go_num,rfl,Ext.grown (HE.o.alloc _) hg4 (fun b hb=>(HOWN.o.blk hb).1),?_,fun s hs=>HNS.o s (List.mem_of_mem_take hs)⟩;rw [List.take_succ_eq_append_getElem (by rw [HNL.o]; exact hlt),HVAL.o,List.length_append,List.length_take,HNL.o,Nat.min_eq_left hm,List.map_append];exact hown4
   case measure=>simp [intOf]; omega
  ·obtain rfl:m=set.length:=by omega
   have ho:=HO.o;rw [List.take_of_length_le (by rw [HNL.o]; exact Nat.le_refl _)] at ho;have HO2:=Hd ho;clear ho hext;go_wp2;go_ret;exact ⟨A',c',by rw [HNL.o]; rfl,Own.cap HO2.o.1,HO2.o.strs (by rw [HNL.o]; exact hbl) (fun b hb=>(Own.blk HO2.o.1 hb).1),HE.o⟩

theorem Own.of_blk {w:World} {g e n sz base:Nat} {cs:Array Value} (h:Blk w g e cs) (hs:cs.size=n*sz) (hn:n≤maxLen) (hb:base≤g):Own w base e sz (some ⟨g,0,none⟩) n n cs.toList:=by
 refine ⟨by simpa using hs,Or.inr ⟨g,n,cs,rfl,hb,h,Nat.le_refl _,hn,hs,?_⟩⟩;rw [List.take_of_length_le (by simp [hs])]
def keyB (rows:List (List Val)) (nc:Nat) (fs:List Nat):Bool:=(List.range nc).all fun c=>holdRows rows fs c
def listsS (rows:List (List Val)) (nc:Nat):List (List Int):=(List.range nc).map fun c=>classesS rows c

theorem table_isKey (rows:List (List Val)) (nc:Nat) (set:List Int) (A B:Option Addr) (ca cb:Nat) (w:World) (S T:Nat→Prop) (hA:Ints w S A set) (hB:RIss w T B (listsS rows nc)) (hr:∀ c∈set,0≤c∧c<(nc:Int)) (hrl:rows.length≤4294967296) :
  Calls Tryz.prog 51 #[.slice A set.length ca,.slice B nc cb,.int .i64 (rows.length:Int)] w (RetB w (keyB rows nc (set.map Int.toNat))):=by
 have hal:=hA.2;have hbl:=hB.1;have hlsl:(listsS rows nc).length=nc:=(by simp [listsS]);rw [hlsl] at hbl;have HLSL:=Hd hlsl;have HA:=Hd hA;have HB:=Hd hB;have HR:=Hd hr;clear hA hB hr hlsl
 go_enter Tryz.func51,Tryz.ntmps51
 go_wp2
 go_loopw [13,7] (fun i v wr=>∃ (k:Nat) (A':Option Addr) (c':Nat),k≤set.length∧i=.int .i64 k∧v=.slice A' k c'∧Ext w wr∧OwnIss wr w.heap.size (fun b=>b<w.heap.size) A' c' (((set.map Int.toNat).map fun f=>classesS rows f).take k)) (fun i _ _=>set.length-(intOf i).toNat)
 case atStart=>exact ⟨0,none,0,Nat.zero_le _,rfl,rfl,Ext.refl _,OwnIss.nil _ _ _⟩
 case round =>
  obtain ⟨k,A',c',hk,rfl,rfl,hext,hown⟩:=hrel;have HE:=Hd hext;have HO:=Hd hown;have hml:((set.map Int.toNat).map fun f=>classesS rows f).length=set.length:=(by simp);have HML:=Hd hml;clear hown hml;by_cases hlt:k<set.length
  ·obtain ⟨b1,o1,rfl,z1,c1⟩:=(HA.o.keep (hext.kept S)).at_ hlt;have hrm:=HR.o _ (List.getElem_mem hlt);obtain ⟨x,hx⟩:=Int.eq_ofNat_of_zero_le hrm.1;have hx2:x<nc:=(by omega);rw [hx] at c1;obtain ⟨b2,o2,B2,c2,rfl,z2',d1',hcp,hint⟩:=HB.o.at_ (show x<(listsS rows nc).length by rw [HLSL.o]; exact hx2);have d1:=hext.cell d1';have z2:b2<wr.heap.size:=(by have:=hext.size; omega);have hlx:(listsS rows nc)[x]'(by rw [HLSL.o]; exact hx2)=classesS rows x:=(by simp [listsS]);rw [hlx] at d1 hcp hint;have HINT:=Hd (hint.mono (T:=fun b=>b<w.heap.size) (fun i hi _=>hi));have hval:((set.map Int.toNat).map fun f=>classesS rows f)[k]'(by rw [HML.o]; exact hlt)=classesS rows x:=(by simp [hx]);have HVAL:=Hd hval;have hlk:(((set.map Int.toNat).map fun f=>classesS rows f).take k).length=k:=(by rw [List.length_take,HML.o]; omega);obtain ⟨hs,ho,hv⟩:=HO.o.ext ((Ext.refl wr).alloc (.cells #[.slice B2 (classesS rows x).length c2] 22));have hhs:hs.length=k:=(by have:=ho.len; rw [hlk] at this; omega);rw [hlk] at ho;have HOWN:=Hd ho;have HV:=Hd hv;have HHS:=Hd hhs;have HLK:=Hd hlk;have hszw:=HE.o.size;clear ho hv hhs hlk hval hext hint d1' hlx hrm hx z2'
   go_wp2_with (at_builtin; go_must (refine wpList_app rfl (.tmp 17) (.tmp 22) rfl tiIs rfl HOWN.o rfl (Blk.rd (Blk.new _ _ _)) rfl (by simp [Value.oneCell']) (by omega) (by decide) (by simp; omega) ?_); intro A4 c4 w4 hown4 hg4 hat4)
   go_roundw
   case rel =>
    refine ⟨k+1,A4,c4,by omega,by go_num,rfl,Ext.grown (HE.o.alloc _) hg4 (fun b hb=>(HOWN.o.blk hb).1),?_⟩;rw [List.take_succ_eq_append_getElem (by rw [HML.o]; exact hlt),HVAL.o];refine OwnIss.push (by rw [HLK.o]; exact HHS.o) HV.o (by rw [HLK.o]; exact hown4) hg4 hat4 hcp ((HINT.o.keep (((HE.o.alloc _)).kept _)).mono fun i _ hi=>⟨fun h0 => ?_,hi⟩);have:=(HO.o.blk h0).1;omega
   case measure=>simp [intOf]; omega
  ·obtain rfl:k=set.length:=by omega
   have hoo:=HO.o;rw [List.take_of_length_le (by rw [HML.o]; exact Nat.le_refl _)] at hoo;have HRS:=Hd (hoo.riss (T:=fun _=>True) (by rw [HML.o]; exact hal) (fun _ _=>trivial) (fun _ _=>trivial));clear hoo hext;have hgl:=table_groups rows.length ((set.map Int.toNat).map fun f=>classesS rows f) A' c' wr (fun _=>True) HRS.o (fun l hl=>by obtain ⟨f,_,rfl⟩:=List.mem_map.1 hl; simp [classesS]) hrl;rw [HML.o] at hgl;have HGL:=Hd hgl;clear hgl
   go_wp2_with fail
   refine HGL.o.mono ?_;rintro e w1 ⟨gs,hgo,A1,c1,rfl,hcp1,hi1,hx1⟩;have HX1:=Hd hx1;have HGO:=Hd hgo;have HI1:=Hd hi1;have hgsl:=hgo.len;have HGSL:=Hd hgsl;clear hx1 hgo hi1 hgsl;have hcf:=slices_ContainsFuncD (listsS rows nc) gs B A1 cb c1 w1.heap.size (w1.alloc (.cells #[.slice A1 gs.length c1] 22)) T (Fresh wr) (HB.o.keep (((HE.o.trans HX1.o).alloc _).kept T)) ((Blk.new w1 22 #[.slice A1 gs.length c1]).cell rfl) (HI1.o.keep (Kept.alloc _ _ _)) (fun l hl=>by rw [HGSL.o]; obtain ⟨f,_,rfl⟩:=List.mem_map.1 hl; simp [classesS]);rw [HLSL.o] at hcf;have HCF:=Hd hcf;clear hcf
   go_wp2_with fail
   refine HCF.o.mono ?_;rintro e w2 ⟨rfl,hx2⟩;have HX2:=Hd hx2;clear hx2;have HF:=Hd (show (!((listsS rows nc).any fun l => !consB gs l))=keyB rows nc (set.map Int.toNat) by
    unfold listsS keyB;rw [List.any_map,List.not_any_eq_all_not];congr 1
    funext c
    simp only [Function.comp_apply,Bool.not_not];exact holdRows_eq HGO.o)
   go_wp2;go_ret;exact ⟨by rw [← HF.o]; rfl,HE.o.trans (HX1.o.trans (((Ext.refl w1).alloc _).trans HX2.o))⟩

def pairsS (n i:Nat):List (List Int):=(List.range' (i+1) (n-(i+1))).map fun j:Nat=>[(i:Int),(j:Int)]
def setsS (n:Nat):List (List Int):=[[]]++((List.range n).map fun i:Nat=>[(i:Int)])++(List.range n).flatMap (pairsS n)
def RetIss (w:World) (l:List (List Int)) (e:Ending) (w':World):Prop:=∃ A c,e=.returned (.slice A l.length c)∧l.length≤c∧RIss w' (Fresh w) A l∧Ext w w'
theorem OwnIss.add {w:World} {base c:Nat} {X:Nat→Prop} {A:Option Addr} {l:List (List Int)} (h:OwnIss w base X A c l):∃ hs,hs.length=l.length∧Own w base 22 1 A l.length c hs∧∀ (i:Nat) (r:List Int),l[i]?=some r→∃ (B:Option Addr) (e:Nat),hs[i]?=some (Value.slice B r.length e)∧r.length≤e∧Ints w (fun b=>ob A≠some b∧X b) B r:=by
 obtain ⟨hs,h1,h2⟩:=h;exact ⟨hs,by simpa using h1.len,h1,h2⟩

theorem table_sets (n:Nat) (w:World) (hn:n≤1000):Calls Tryz.prog 47 #[.int .i64 (n:Int)] w (RetIss w (setsS n)):=by
 go_enter Tryz.func47,Tryz.ntmps47
 go_wp2;have HB0:=Hd (Blk.new (w.alloc (.cells #[] 3)) 22 #[.slice (some ⟨w.heap.size,0,none⟩) 0 0]);have hst:OwnIss ((w.alloc (.cells #[] 3)).alloc (.cells #[.slice (some ⟨w.heap.size,0,none⟩) 0 0] 22)) w.heap.size (Fresh w) (some ⟨w.heap.size+1,0,none⟩) 1 ([[]]++(List.range 0).map fun i:Nat=>[(i:Int)]):=by
  refine ⟨[.slice (some ⟨w.heap.size,0,none⟩) 0 0],?_,fun i r hr => ?_⟩
  ·have:=Own.of_blk (n:=1) (sz:=1) (base:=w.heap.size) HB0.o (by simp) (by unfold maxLen; omega) (by simp)
   simpa using this
  ·have hi:i=0:=by
    have:=(List.getElem?_eq_some_iff.1 hr).1;simp at this;exact this
   subst hi;simp at hr;subst hr;exact ⟨_,0,rfl,Nat.le_refl _,Ints.nil⟩
 have HST:=Hd hst;clear hst
 go_loopw [10,3] (fun i v wr=>∃ (k:Nat) (A':Option Addr) (c':Nat),k≤n∧i=.int .i64 k∧v=.slice A' (k+1) c'∧Ext w wr∧OwnIss wr w.heap.size (Fresh w) A' c' ([[]]++(List.range k).map fun i:Nat=>[(i:Int)])) (fun i _ _=>n-(intOf i).toNat)
 case atStart=>exact ⟨0,_,_,Nat.zero_le _,rfl,rfl,((Ext.refl w).alloc _).alloc _,HST.o⟩
 case round =>
  clear HST HB0;obtain ⟨k,A',c',hk,rfl,rfl,hext,hown⟩:=hrel;have HE:=Hd hext;have HO:=Hd hown;have hszw:=hext.size;clear hown hext;by_cases hlt:k<n
  ·have hll:([[]]++(List.range k).map fun i:Nat=>[(i:Int)]).length=k+1:=(by simp);obtain ⟨hs,hhs,ho,hv⟩:=(HO.o.ext (((Ext.refl wr).alloc (.cells #[.int .i64 (k:Int)] 3)).alloc (.cells #[.slice (some ⟨wr.heap.size,0,none⟩) 1 1] 22))).add;rw [hll] at ho;have HOWN:=Hd ho;have HV:=Hd hv;have HHS:=Hd hhs;have HLL:=Hd hll;have hbn:=Blk.new (wr.alloc (.cells #[.int .i64 (k:Int)] 3)) 22 #[.slice (some ⟨wr.heap.size,0,none⟩) 1 1];rw [show (wr.alloc (.cells #[.int .i64 (k:Int)] 3)).heap.size=wr.heap.size+1 by simp] at hbn;have HBN:=Hd hbn;clear ho hv hhs hll hbn
   go_wp2_with (at_builtin; go_must (refine wpList_app rfl (.tmp 13) (.tmp 16) rfl tiIs rfl HOWN.o rfl (Blk.rd HBN.o) rfl (by simp [Value.oneCell']) (by omega) (by decide) (by simp; omega) ?_); intro A4 c4 w4 hown4 hg4 hat4)
   go_roundw
   case rel =>
    refine ⟨k+1,A4,c4,by omega,by go_num,rfl,Ext.grown ((HE.o.alloc _).alloc _) hg4 (fun b hb=>(HOWN.o.blk hb).1),?_⟩;rw [List.range_succ,List.map_append,← List.append_assoc];refine OwnIss.push (r:=[(k:Int)]) HHS.o HV.o (by rw [HLL.o]; exact hown4) hg4 hat4 (Nat.le_refl _) ⟨?_,by simp⟩;refine ((Blk.rd (Blk.new wr 3 #[.int .i64 (k:Int)])).keep (Kept.alloc _ _ _)).mono fun i _ hi=>⟨fun h0 => ?_,?_⟩
    ·have:=(HO.o.blk h0).2;omega
    ·unfold Fresh;omega
   case measure=>simp [intOf]; omega
  ·obtain rfl:k=n:=by omega
   have hgo0:OwnIss wr w.heap.size (Fresh w) A' c' ([[]]++((List.range k).map fun i:Nat=>[(i:Int)])++(List.range 0).flatMap (pairsS k)):=by
    have:=HO.o
    simpa using this
   have HO2:=Hd hgo0;clear hgo0 HO;go_wp2
   go_loopw [20,3] (fun i v wr=>∃ (m:Nat) (A':Option Addr) (c':Nat) (l:List (List Int)),m≤k∧l=[[]]++((List.range k).map fun i:Nat=>[(i:Int)])++(List.range m).flatMap (pairsS k)∧i=.int .i64 m∧v=.slice A' l.length c'∧Ext w wr∧l.length≤2000+m*1000∧OwnIss wr w.heap.size (Fresh w) A' c' l) (fun i _ _=>k-(intOf i).toNat)
   case atStart=>exact ⟨0,_,_,_,Nat.zero_le _,rfl,rfl,by simp,HE.o,by simp; omega,HO2.o⟩
   case round =>
    clear HO2 HE hszw;obtain ⟨m,A2,c2,l,hm,hl,rfl,rfl,hext2,hll2,hown2⟩:=hrel;have HL:=Hd hl;have HE2:=Hd hext2;have HO3:=Hd hown2;clear hl hext2 hown2;obtain ⟨wo,rfl⟩:∃ wo:World,wo=wr:=⟨_,rfl⟩;by_cases hlt2:m<k
    ·go_wp2
     go_loopw [6,3] (fun i v wr=>∃ (q:Nat) (A':Option Addr) (c':Nat) (l2:List (List Int)),q≤k-(m+1)∧l2=l++(List.range' (m+1) q).map (fun j:Nat=>[(m:Int),(j:Int)])∧i=.int .i64 ((m+1+q:Nat):Int)∧v=.slice A' l2.length c'∧Ext w wr∧l2.length≤l.length+q∧OwnIss wr w.heap.size (Fresh w) A' c' l2) (fun i _ _=>k-(intOf i).toNat)
     case atStart=>exact ⟨0,A2,c2,l,Nat.zero_le _,by simp,by go_num,rfl,HE2.o,by simp,HO3.o⟩
     case round =>
      obtain ⟨q,A3,c3,l2,hq,hl2,rfl,rfl,hext3,hll3,hown3⟩:=hrel;have HL2:=Hd hl2;have HE3:=Hd hext3;have HO4:=Hd hown3;have hszw:=hext3.size;clear hl2 hext3 hown3;by_cases hlt3:m+1+q<k
      ·obtain ⟨hs,hhs,ho,hv⟩:=(HO4.o.ext (((Ext.refl wr).alloc (.cells #[.int .i64 (m:Int),.int .i64 ((m+1+q:Nat):Int)] 3)).alloc (.cells #[.slice (some ⟨wr.heap.size,0,none⟩) 2 2] 22))).add;have HOWN:=Hd ho;have HV:=Hd hv;have HHS:=Hd hhs;have hbn:=Blk.new (wr.alloc (.cells #[.int .i64 (m:Int),.int .i64 ((m+1+q:Nat):Int)] 3)) 22 #[.slice (some ⟨wr.heap.size,0,none⟩) 2 2];rw [show (wr.alloc (.cells #[.int .i64 (m:Int),.int .i64 ((m+1+q:Nat):Int)] 3)).heap.size=wr.heap.size+1 by simp] at hbn;have HBN:=Hd hbn;clear ho hv hhs hbn
       go_wp2_with (at_builtin; go_must (refine wpList_app rfl (.tmp 30) (.tmp 34) rfl tiIs rfl HOWN.o rfl (Blk.rd HBN.o) rfl (by simp [Value.oneCell']) (by omega) (by decide) (by simp; omega) ?_); intro A4 c4 w4 hown4 hg4 hat4)
       go_roundw
       case rel =>
        refine ⟨q+1,A4,c4,l2++[[(m:Int),((m+1+q:Nat):Int)]],by omega,?_,by go_num,by simp,Ext.grown ((HE3.o.alloc _).alloc _) hg4 (fun b hb=>(HOWN.o.blk hb).1),by simp; omega,?_⟩
        ·rw [HL2.o,List.range'_1_concat,List.map_append,← List.append_assoc];simp
        ·refine OwnIss.push (r:=[(m:Int),((m+1+q:Nat):Int)]) HHS.o HV.o hown4 hg4 hat4 (Nat.le_refl _) ⟨?_,by simp⟩;refine ((Blk.rd (Blk.new wr 3 #[.int .i64 (m:Int),.int .i64 ((m+1+q:Nat):Int)])).keep (Kept.alloc _ _ _)).mono fun i _ hi=>⟨fun h0 => ?_,?_⟩
         ·have:=(HO4.o.blk h0).2;omega
         ·unfold Fresh;omega
       case measure=>simp [intOf]; omega
      ·have hqe:q=k-(m+1):=(by omega);have HQ:=Hd hqe;clear hqe;go_wp2;go_roundw
       case rel =>
        refine ⟨m+1,A3,c3,l2,by omega,?_,by go_num,rfl,HE3.o,by omega,HO4.o⟩;rw [HL2.o,HL.o,HQ.o,List.range_succ,List.flatMap_append,← List.append_assoc];simp [pairsS]
       case measure=>simp [intOf]; omega
    ·obtain rfl:m=k:=by omega
     obtain rfl:l=setsS m:=HL.o;have HC:=Hd (show (setsS m).length≤c2 by obtain ⟨hs,_,h1,_⟩:=HO3.o.add; exact h1.cap);clear HL;go_wp2;go_ret;exact ⟨A2,c2,rfl,HC.o,HO3.o.riss (by omega) (fun b hb=>(HO3.o.blk hb).1) (fun _ h=>h),HE2.o⟩

theorem nodup_len {α:Type} [DecidableEq α]:∀ {l m:List α},l.Nodup→(∀ x∈l,x∈m)→l.length≤m.length
 | [],_,_,_=>Nat.zero_le _
 | x :: l,m,hn,hs=>by
  have hx:x∈m:=hs x (List.mem_cons_self);have h1:=List.nodup_cons.1 hn;have:=nodup_len (l:=l) (m:=m.erase x) h1.2 (fun y hy=>by
   have hne:y≠x:=fun e=>h1.1 (e ▸ hy);exact (List.mem_erase_of_ne hne).2 (hs y (List.mem_cons_of_mem _ hy)))
  rw [List.length_erase_of_mem hx] at this;have hp:0<m.length:=List.length_pos_of_mem hx;simp;omega
structure Part (l:List Dep) (frm ks:List ByteArray):Prop where
 nodup:ks.Nodup
 base:∀ x∈frm,x∈ks
 least:∀ T:ByteArray→Prop,(∀ x∈frm,T x)→(∀ d∈l,(∀ x∈d.frm,T x)→T d.to)→∀ x∈ks,T x
theorem Part.len {l:List Dep} {frm ks:List ByteArray} (h:Part l frm ks):ks.length≤frm.length+l.length:=by
 have:=nodup_len h.nodup (m:=frm++l.map Dep.to) (h.least (fun x=>x∈frm++l.map Dep.to) (fun x hx=>List.mem_append_left _ hx) (fun d hd _=>List.mem_append_right _ (List.mem_map_of_mem hd)))
 simpa using this
theorem Part.add {l:List Dep} {frm ks:List ByteArray} (h:Part l frm ks) {d:Dep} (hd:d∈l) (hf:∀ x∈d.frm,x∈ks) (hx:d.to ∉ ks):Part l frm (ks++[d.to]):=by
 refine ⟨?_,fun x hx=>List.mem_append_left _ (h.base x hx),fun T h1 h2 x hx => ?_⟩
 ·rw [List.nodup_append];refine ⟨h.nodup,by simp,?_⟩;intro a ha b hb;simp at hb;subst hb;exact fun e=>hx (e ▸ ha)
 ·rcases List.mem_append.1 hx with hx | hx
  ·exact h.least T h1 h2 x hx
  ·simp at hx;subst hx;exact h2 d hd (fun y hy=>h.least T h1 h2 y (hf y hy))
theorem any_mem {l ks:List ByteArray} : (l.any fun x => !memB ks x)=false↔∀ x∈l,x∈ks:=by
 rw [List.any_eq_false];constructor
 ·intro h x hx;have:=h x hx;rw [← memB_iff]
  simpa using this
 ·intro h x hx;have:=(memB_iff ks x).2 (h x hx);simp [this]
def RetCl (w:World) (l:List Dep) (frm:List ByteArray) (e:Ending) (w':World):Prop:=∃ ks,IsClosure l frm ks∧RetSs w (sortS ks) e w'

theorem table_Closure (l:List Dep) (frm:List ByteArray) (A B:Option Addr) (ca cb:Nat) (w:World) (S T:Nat→Prop) (hA:RDeps w S A l) (hB:Strs w T B frm) (hsm:frm.length+l.length≤4294967296) :
  Calls Tryz.prog 22 #[.slice A l.length ca,.slice B frm.length cb] w (RetCl w l frm):=by
 have hal:=hA.1;have hbl:=hB.2.1;have HA:=Hd hA;have HB:=Hd hB;clear hA hB;have hmm:=@run_makeMap Tryz.prog
 go_enter Tryz.func22,Tryz.ntmps22
 go_wp2
 go_step3
 go_wp2;clear hmm;have HBX:=Hd (Blk.new (w.alloc (.map #[] 0)) 94 #[.map (some w.heap.size)]);have HSET:=Hd (show SetIs ((w.alloc (.map #[] 0)).alloc (.cells #[.map (some w.heap.size)] 94)) w.heap.size [] from (MapIs.made w _).keep (Kept.alloc _ _ _))
 go_loopw [15] (fun i wr=>∃ (k:Nat) (ks:List ByteArray),k≤frm.length∧i=.int .i64 k∧Ext w wr∧w.heap.size+1<wr.heap.size∧wr.cell? ⟨w.heap.size+1,0,none⟩=some (.map (some w.heap.size))∧SetIs wr w.heap.size ks ∧
   ks.Nodup∧(∀ j (h:j<frm.length),j<k→frm[j]∈ks)∧(∀ x∈ks,x∈frm)) (fun i _=>frm.length-(intOf i).toNat)
 case atStart=>exact ⟨0,[],Nat.zero_le _,rfl,((Ext.refl w).alloc _).alloc _,by simp,by simp,HSET.o,by simp,by intros; omega,by simp⟩
 case round =>
  obtain ⟨k,ks,hk,rfl,hext,hsz,hbox,hset,h1,h2,h3⟩:=hrel;have HE:=Hd hext;have HS:=Hd hset;have H1:=Hd h1;have H2:=Hd h2;have H3:=Hd h3;clear hset h1 h2 h3;by_cases hlt:k<frm.length
  ·obtain ⟨b1,o1,rfl,z1,c1⟩:=(HB.o.keep (hext.kept T)).at_ hlt;obtain ⟨w',ks',hup,hset',hg',hks⟩:=HS.o.put frm[k];have HS':=Hd hset';have HG':=Hd hg';have HKS:=Hd hks;have HBX2:=Hd hbox;clear hset' hg' hks hext;go_wp2;go_roundw
   case rel =>
    refine ⟨k+1,ks',by omega,by go_num,HE.o.grown HG'.out (fun b hb=>by injection hb with hb; omega),by have:=HG'.out.size; omega,?_,HS'.out,?_,fun j h hj => ?_,fun x hx => ?_⟩
    ·rw [World.cell?_of_block (HG'.out.block (w.heap.size+1) hsz (fun e=>by injection e with e; omega))];exact HBX2.o
    ·rcases HKS.o with ⟨_,rfl⟩ | ⟨hn,rfl⟩
     ·exact H1.o
     ·rw [List.nodup_append];refine ⟨H1.o,by simp,?_⟩;intro a ha b hb;simp at hb;subst hb;exact fun e=>hn (e ▸ ha)
    ·rcases HKS.o with ⟨hm,rfl⟩ | ⟨hn,rfl⟩
     ·by_cases hjk:j=k
      ·subst hjk; exact hm
      ·exact H2.o j h (by omega)
     ·by_cases hjk:j=k
      ·subst hjk; simp
      ·exact List.mem_append_left _ (H2.o j h (by omega))
    ·rcases HKS.o with ⟨hm,rfl⟩ | ⟨hn,rfl⟩
     ·exact H3.o x hx
     ·rcases List.mem_append.1 hx with hx | hx
      ·exact H3.o x hx
      ·simp at hx;subst hx;exact List.getElem_mem hlt
   case measure=>simp [intOf]; omega
  ·have hpart:Part l frm ks:=⟨H1.o,fun x hx=>by
    obtain ⟨i,hi,rfl⟩:=List.mem_iff_getElem.1 hx;exact H2.o i hi (by omega),fun T h1 _ x hx=>h1 x (H3.o x hx)⟩
   have HP:=Hd hpart;have HBX2:=Hd hbox;have HSZ:=Hd hsz;clear hpart hext hbox hsz;go_wp2
   go_step3
   go_wp2
   go_loopg [9] (frm.length+l.length+1) (fun gk _ wr=>∃ ks:List ByteArray,frm.length+l.length+1≤gk+ks.length∧Ext w wr∧w.heap.size+1<wr.heap.size∧wr.cell? ⟨w.heap.size+1,0,none⟩=some (.map (some w.heap.size))∧SetIs wr w.heap.size ks∧Part l frm ks)
   case atStart=>exact ⟨ks,by omega,HE.o,HSZ.o,HBX2.o,HS.o,HP.o⟩
   case round =>
    clear HE HS H1 H2 H3 HP HBX2 HSZ HBX HSET hlt hk;obtain ⟨ks0,hgk,hext,hsz,hbox,hset,hpart⟩:=hrel;have hkl:=hpart.len;have HE:=Hd hext;have HS:=Hd hset;have HP:=Hd hpart;have hlen:=hset.len 3;have HBX:=Hd hbox;have HGK:=Hd hgk;clear hset hpart hext hgk;go_wp2;clear hlen;obtain ⟨wo,rfl⟩:∃ wo:World,wo=wr:=⟨_,rfl⟩;clear hbox
    go_loopw [27] (fun i wi=>∃ (j:Nat) (ks:List ByteArray),j≤l.length∧i=.int .i64 j∧Ext w wi∧w.heap.size+1<wi.heap.size∧wi.cell? ⟨w.heap.size+1,0,none⟩=some (.map (some w.heap.size))∧SetIs wi w.heap.size ks∧Part l frm ks∧ks0.length≤ks.length ∧
      (ks.length=ks0.length→ks=ks0∧∀ m (h:m<l.length),m<j→(∀ x∈l[m].frm,x∈ks0)→l[m].to∈ks0)) (fun i _=>l.length-(intOf i).toNat)
    case atStart=>exact ⟨0,ks0,Nat.zero_le _,rfl,HE.o,hsz,HBX.o,HS.o,HP.o,Nat.le_refl _,fun _=>⟨rfl,by intros; omega⟩⟩
    case round =>
     obtain ⟨j,ks,hj,rfl,hexi,hszi,hbxi,hsti,hpti,hle,hsame⟩:=hrel;have HEI:=Hd hexi;have HSI:=Hd hsti;have HPI:=Hd hpti;have HSAME:=Hd hsame;have HBI:=Hd hbxi;have hkl2:=hpti.len;clear hsti hpti hsame;by_cases hlt:j<l.length
     ·obtain ⟨b1,o1,B2,c2,rfl,z1,p0,p1,hcp,hts,hstr⟩:=(HA.o.keep (hexi.kept S)).at_ hlt;have HSTR:=Hd hstr;clear hstr hexi;have HCF:=Hd (slices_ContainsFuncS l[j].frm B2 c2 (w.heap.size+1) w.heap.size ks (wr.alloc (.cells #[.slice B2 l[j].frm.length c2,.string l[j].to] 59)) S (HSTR.o.keep (Kept.alloc _ _ _)) (((Ext.refl wr).alloc _).cell HBI.o) (HSI.o.keep (Kept.alloc _ _ _)));cases hany:(l[j].frm.any fun x => !memB ks x)
      ·have hall:=any_mem.1 hany;have HALL:=Hd hall;have HANY:=Hd hany;clear hall hany;obtain ⟨w',ks',hup,hset',hg',hks⟩:=(HSI.o.keep (Kept.alloc _ wr (.cells #[.slice B2 l[j].frm.length c2,.string l[j].to] 59)):SetIs _ _ _).put l[j].to;have HS':=Hd hset';have HG':=Hd hg';have HKS:=Hd hks;clear hset' hg' hks
       go_wp2_with (go_at_call 55; refine HCF.o.mono ?_; rintro e1 w1 ⟨rfl,rfl⟩; rw [HANY.o])
       go_roundw
       case rel =>
        have hszw:=HG'.out.size;simp at hszw;refine ⟨j+1,ks',by omega,by go_num,(HEI.o.alloc _).grown HG'.out (fun b hb=>by injection hb with hb; omega),by omega,?_,HS'.out,?_,?_,?_⟩
        ·rw [World.cell?_of_block (HG'.out.block (w.heap.size+1) (by simp; omega) (fun e=>by injection e with e; omega))];exact ((Ext.refl wr).alloc _).cell HBI.o
        ·rcases HKS.o with ⟨_,rfl⟩ | ⟨hn,rfl⟩
         ·exact HPI.o
         ·exact HPI.o.add (List.getElem_mem hlt) HALL.o hn
        ·rcases HKS.o with ⟨_,rfl⟩ | ⟨hn,rfl⟩
         ·exact hle
         ·simp; omega
        ·intro hsl
         rcases HKS.o with ⟨hm,rfl⟩ | ⟨hn,rfl⟩
         ·obtain ⟨e1,e2⟩:=HSAME.o hsl;refine ⟨e1,fun m h hm2 hf => ?_⟩;by_cases hmj:m=j
          ·subst hmj; rw [← e1]; exact hm
          ·exact e2 m h (by omega) hf
         ·simp at hsl;omega
       case measure=>simp [intOf]; omega
      ·have HANY:=Hd hany;clear hany
       go_wp2_with (go_at_call 55; refine HCF.o.mono ?_; rintro e1 w1 ⟨rfl,rfl⟩; rw [HANY.o])
       go_roundw
       case rel =>
        refine ⟨j+1,ks,by omega,by go_num,HEI.o.alloc _,by simp; omega,((Ext.refl wr).alloc _).cell HBI.o,HSI.o.keep (Kept.alloc _ _ _),HPI.o,hle,fun hsl => ?_⟩;obtain ⟨e1,e2⟩:=HSAME.o hsl;refine ⟨e1,fun m h hm2 hf => ?_⟩;by_cases hmj:m=j
        ·subst hmj;exfalso;rw [← e1] at hf;have:=any_mem.2 hf;rw [HANY.o] at this;cases this
        ·exact e2 m h (by omega) hf
       case measure=>simp [intOf]; omega
     ·have hlen:=HSI.o.len 3;clear hexi;by_cases heq:ks.length=ks0.length
      ·have heq':((ks.length:Int)==(ks0.length:Int))=true:=(by simp [heq]);obtain ⟨rfl,hcl⟩:=HSAME.o heq;have HCL:=Hd (show IsClosure l frm ks from ⟨HPI.o.nodup,HPI.o.base,fun d hd hf=>by
        obtain ⟨i,hi,rfl⟩:=List.mem_iff_getElem.1 hd;exact hcl i hi (by omega) hf,HPI.o.least⟩)
       have hksz:∀ x∈ks,x.size≤4294967296:=HPI.o.least _ (fun x hx=>HB.o.2.2 x hx) (fun d hd _=>by
        obtain ⟨i,hi,rfl⟩:=List.mem_iff_getElem.1 hd;obtain ⟨_,_,_,_,_,_,_,_,_,h9,_⟩:=HA.o.at_ hi;exact h9)
       have HKSZ:=Hd hksz;clear heq hcl hksz
       go_wp2_with fail
       refine (maps_Keys w.heap.size _).mono ?_;rintro e1 w1 ⟨rfl,rfl⟩
       go_wp2_with fail
       refine (slices_Sorted w.heap.size (ks.map fun k=>(k,Value.bool true)) _ HSI.o (by simp) (by simpa using HKSZ.o) (by simp; omega)).mono ?_;have hmk:(ks.map fun k=>(k,Value.bool true)).map (·.1)=ks:=(by simp [Function.comp_def]);rw [hmk];clear hmk;rintro e1 w1 ⟨A9,c9,rfl,hc9,hs9,hx9⟩;have HX9:=Hd hx9;clear hx9 hlen;go_wp2;rw [Exit.noGoto_ret];go_ret;exact ⟨ks,HCL.o,A9,c9,rfl,hc9,hs9.mono (T:=Fresh w) (fun i _ hi=>by unfold Fresh at hi ⊢; simp at hi; omega),HEI.o.trans (((Ext.refl wr).alloc _).trans HX9.o)⟩
      ·have heq':((ks.length:Int)==(ks0.length:Int))=false:=by
        rw [beq_eq_false_iff_ne];omega
       go_wp2
       go_roundg (gk-1)
       case measure=>have:=HGK.o; omega
       case rel=>exact ⟨ks,by have:=HGK.o; omega,HEI.o,hszi,HBI.o,HSI.o,HPI.o⟩

def OwnDs (w:World) (base:Nat) (X:Nat→Prop) (A:Option Addr) (c:Nat) (l:List Dep):Prop :=
 ∃ xs,Own w base 59 2 A l.length c xs∧∀ (i:Nat) (d:Dep),l[i]?=some d→∃ (B:Option Addr) (e:Nat),xs[i*2]?=some (.slice B d.frm.length e)∧xs[i*2+1]?=some (.string d.to)∧d.frm.length≤e∧d.to.size≤4294967296∧Strs w (fun b=>ob A≠some b∧X b) B d.frm
theorem Strs.move {w w':World} {S T:Nat→Prop} {l:List ByteArray} {B:Option Addr} (h:Strs w S B l) (k:Kept S w w') (m:∀ i,i<w.heap.size→S i→T i):Strs w' T B l :=
 ((Strs.mono h (T:=fun b=>S b∧T b) fun i hi hs=>⟨hs,m i hi hs⟩).keep (k.mono fun _ _ hh=>hh.1)).mono fun _ _ hh=>hh.2
theorem OwnDs.nil (w:World) (base:Nat) (X:Nat→Prop):OwnDs w base X none 0 []:=⟨[],Own.nil _ _ _ _,by simp⟩
theorem OwnDs.keep {w w':World} {base c:Nat} {X:Nat→Prop} {A:Option Addr} {l:List Dep} (h:OwnDs w base X A c l) (hk:Kept (fun b=>ob A=some b∨X b) w w'):OwnDs w' base X A c l:=by
 obtain ⟨hs,h1,h2⟩:=h;refine ⟨hs,h1.keep (hk.mono fun _ _ hh=>Or.inl hh),fun i r hr => ?_⟩;obtain ⟨B,e,h3,h4,h5,h6,h7⟩:=h2 i r hr;exact ⟨B,e,h3,h4,h5,h6,h7.keep (hk.mono fun _ _ hh=>Or.inr hh.2)⟩
theorem OwnDs.ext {w w':World} {base c:Nat} {X:Nat→Prop} {A:Option Addr} {l:List Dep} (h:OwnDs w base X A c l) (hx:Ext w w'):OwnDs w' base X A c l:=h.keep (hx.kept _)
theorem OwnDs.mono {w:World} {base c:Nat} {X T:Nat→Prop} {A:Option Addr} {l:List Dep} (h:OwnDs w base X A c l) (hm:∀ b,b<w.heap.size→X b→T b):OwnDs w base T A c l:=by
 obtain ⟨hs,h1,h2⟩:=h;refine ⟨hs,h1,fun i r hr => ?_⟩;obtain ⟨B,e,h3,h4,h5,h6,h7⟩:=h2 i r hr;exact ⟨B,e,h3,h4,h5,h6,h7.mono fun i hi hh=>⟨hh.1,hm i hi hh.2⟩⟩
theorem OwnDs.push {w w':World} {base c':Nat} {X:Nat→Prop} {A A':Option Addr} {l:List Dep} {r:Dep} {B:Option Addr} {e:Nat} {hs:List Value} (ho:hs.length=l.length*2)
  (hv:∀ (i:Nat) (d:Dep),l[i]?=some d→∃ (B:Option Addr) (e:Nat),hs[i*2]?=some (.slice B d.frm.length e)∧hs[i*2+1]?=some (.string d.to)∧d.frm.length≤e∧d.to.size≤4294967296∧Strs w (fun b=>ob A≠some b∧X b) B d.frm)
  (hown:Own w' base 59 2 A' (l.length+1) c' (hs++[Value.slice B r.frm.length e,.string r.to])) (hg:w.grownBy w' (ob A)) (hat:ob A'=ob A∨ob A'=some w.heap.size)
  (hre:r.frm.length≤e) (hrt:r.to.size≤4294967296) (hy:Strs w (fun b=>ob A≠some b∧X b) B r.frm):OwnDs w' base X A' c' (l++[r]):=by
 have hk:Kept (fun b=>ob A≠some b∧X b) w w':=Kept.of_grown hg (fun b hb _ e=>hb.1 e.symm);have hm:∀ i,i<w.heap.size→(ob A≠some i∧X i)→(ob A'≠some i∧X i):=by
  rintro i hi ⟨h1,h2⟩;refine ⟨?_,h2⟩
  rcases hat with e | e <;> rw [e]
  ·exact h1
  ·intro h; injection h with h; omega
 refine ⟨_,by simpa using hown,fun i r' hr => ?_⟩
 rcases Nat.lt_or_ge i l.length with hlt | hge
 ·rw [List.getElem?_append_left hlt] at hr;obtain ⟨B',e',h3,h4,h5,h6,h7⟩:=hv i r' hr;exact ⟨B',e',by rw [List.getElem?_append_left (by omega)]; exact h3,by rw [List.getElem?_append_left (by omega)]; exact h4,h5,h6,h7.move hk hm⟩
 ·rw [List.getElem?_append_right hge] at hr;have hj0:i-l.length=0:=by
   rcases Nat.eq_zero_or_pos (i-l.length) with h0 | h0
   ·exact h0
   ·rw [List.getElem?_eq_none (by simp; omega)] at hr;cases hr
  rw [hj0] at hr;simp at hr;subst hr;obtain rfl:i=l.length:=by omega
  exact ⟨B,e,by rw [List.getElem?_append_right (by omega),ho,Nat.sub_self]; rfl,by rw [List.getElem?_append_right (by omega),ho,Nat.add_sub_cancel_left]; rfl,hre,hrt,hy.move hk hm⟩
theorem OwnDs.rdeps {w:World} {base c:Nat} {X T:Nat→Prop} {A:Option Addr} {l:List Dep} (h:OwnDs w base X A c l) (hl:l.length≤4294967296) (h1:∀ b,ob A=some b→T b) (h2:∀ b,X b→T b):RDeps w T A l:=by
 obtain ⟨hs,ho,hv⟩:=h;refine ⟨hl,hs,ho.rd.mono fun i _ hi=>h1 i hi,by simpa using ho.len,fun i r hr => ?_⟩;obtain ⟨B,e,h3,h4,h5,h6,h7⟩:=hv i r hr;exact ⟨B,e,h3,h4,h5,h6,h7.mono fun i _ hi=>h2 i hi.2⟩
theorem OwnDs.blk {w:World} {base c:Nat} {X:Nat→Prop} {A:Option Addr} {l:List Dep} (h:OwnDs w base X A c l) {k:Nat} (hk:ob A=some k):base≤k∧k<w.heap.size:=by
 obtain ⟨xs,ho,_⟩:=h;exact ho.blk hk
theorem OwnDs.add {w:World} {base c:Nat} {X:Nat→Prop} {A:Option Addr} {l:List Dep} (h:OwnDs w base X A c l):∃ hs,hs.length=l.length*2∧Own w base 59 2 A l.length c hs∧∀ (i:Nat) (d:Dep),l[i]?=some d→∃ (B:Option Addr) (e:Nat),hs[i*2]?=some (.slice B d.frm.length e)∧hs[i*2+1]?=some (.string d.to)∧d.frm.length≤e∧d.to.size≤4294967296∧Strs w (fun b=>ob A≠some b∧X b) B d.frm:=by
 obtain ⟨hs,h1,h2⟩:=h;exact ⟨hs,h1.len,h1,h2⟩
theorem OwnIss.keep {w w':World} {base c:Nat} {X:Nat→Prop} {A:Option Addr} {l:List (List Int)} (h:OwnIss w base X A c l) (hk:Kept (fun b=>ob A=some b∨X b) w w'):OwnIss w' base X A c l:=by
 obtain ⟨hs,h1,h2⟩:=h;refine ⟨hs,h1.keep (hk.mono fun _ _ hh=>Or.inl hh),fun i r hr => ?_⟩;obtain ⟨B,e,h3,h4,h7⟩:=h2 i r hr;exact ⟨B,e,h3,h4,h7.keep (hk.mono fun _ _ hh=>Or.inr hh.2)⟩
theorem infoD:(Tryz.prog.info? 59).map (fun i=>(i.zero,i.size,i.bytes))=some (some (.agg #[.slice none 0 0,.string ⟨#[]⟩]),2,40):=by kernel_rfl
theorem tiD:TI Tryz.prog 56 59 2 40:=TI.mk_ Tryz.underlying56 infoD rfl (by decide)

def depsOf (cols:List ByteArray) (s:List Int) (n:Nat):List Dep:=((List.range n).filter fun c:Nat => !memI s (c:Int)).map fun c=>⟨namesS cols s,cols.getD c ⟨#[]⟩⟩
def keyStep (cols:List ByteArray) (rows:List (List Val)) (st:List (List Int) × List Dep) (s:List Int):List (List Int) × List Dep :=
 if st.1.any (fun k=>subI k s) then st else if !keyB rows cols.length (s.map Int.toNat) then st else (st.1++[s],st.2++depsOf cols s cols.length)
def nodupB (l:List ByteArray):Bool:=decide l.Nodup
def keysS (cols:List ByteArray) (rows:List (List Val)):List Dep :=
 if !nodupB cols || !regB cols rows then [] else ((setsS cols.length).foldl (keyStep cols rows) ([],[])).2
def RetDs (w:World) (l:List Dep) (e:Ending) (w':World):Prop:=∃ A c,e=.returned (.slice A l.length c)∧l.length≤c∧RDeps w' (Fresh w) A l∧Ext w w'
end Go.Proofs.YthmckfloppblcaaGreatDoor
