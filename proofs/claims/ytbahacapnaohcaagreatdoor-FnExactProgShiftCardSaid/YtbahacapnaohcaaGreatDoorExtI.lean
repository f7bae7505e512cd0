import Derived.Test.YtbahacapnaohcaaGreatDoorA1
set_option linter.unusedVariables false
set_option linter.unusedSimpArgs false
namespace Go.Proofs.YtbahacapnaohcaaGreatDoor.PB
open Go.RowKit Go.Proofs.YtbahacapnaohcaaGreatDoorW.PrintWords Go.Proofs.YtbahacapnaohcaaGreatDoorW.PrintLast Go.Proofs.YtbahacapnaohcaaGreatDoorW.PrintMore
def idxP {α:Type} (p:α→Bool):List α→Nat→Int
 | [],_=>-1
 | x :: l,k=>if p x=true then (k:Int) else idxP p l (k+1)
theorem idxP_iff {α:Type} (p:α→Bool):∀ (l:List α) (k:Nat),0≤idxP p l k↔l.any p=true
 | [],k=>by simp [idxP]
 | x :: l,k=>by
  have ih:=idxP_iff p l (k+1)
  by_cases h:p x=true
  ·simp [idxP,h]
  ·simpa [idxP,h] using ih
theorem idxP_ge {α:Type} (p:α→Bool) (l:List α) (k:Nat):decide (0≤idxP p l k)=l.any p:=by
 rw [Bool.eq_iff_iff,decide_eq_true_iff];exact idxP_iff p l k
theorem rdT65_get {l:List S65} {k:Nat} (h:k<l.length):rd_T65 l (k:Int)=l[k]:=by
 unfold rd_T65;rw [Int.toNat_natCast,List.getD_eq_getElem?_getD,List.getElem?_eq_getElem h];rfl
theorem rdT63_get {l:List S63} {k:Nat} (h:k<l.length):rd_T63 l (k:Int)=l[k]:=by
 unfold rd_T63;rw [Int.toNat_natCast,List.getD_eq_getElem?_getD,List.getElem?_eq_getElem h];rfl
theorem rdT102_get {l:List S102} {k:Nat} (h:k<l.length):rd_T102 l (k:Int)=l[k]:=by
 unfold rd_T102;rw [Int.toNat_natCast,List.getD_eq_getElem?_getD,List.getElem?_eq_getElem h];rfl
theorem rdStr_get {l:List ByteArray} {k:Nat} (h:k<l.length):rdOf ByteArray.empty l (k:Int)=l[k]:=by
 unfold rdOf;rw [Int.toNat_natCast,List.getD_eq_getElem?_getD,List.getElem?_eq_getElem h];rfl
def RdDef (W:World) (x:S65) (A1:Option Addr) (c1:Nat) (A2:Option Addr) (c2:Nat):Prop:=
 x.f1.length≤c1∧Kd.string.C W A1 x.f1.length x.f1∧x.f2.f0.length≤c2∧k102.C W A2 x.f2.f0.length x.f2.f0
def Pred_s192 (p:ByteArray→Bool) (w:World) (l0:List ByteArray):Prop:=∀ x,x∈l0→∀ W,Below w.heap.size w W→Calls Tryz.prog 192 #[.string x] W fun e W'=>e=.returned (.bool (p x))∧Below W.heap.size W W'
set_option maxHeartbeats 1000000 in
theorem index_s192 (p:ByteArray→Bool) (A0:Option Addr) (c0:Nat) (l0:List ByteArray) (w:World) (hr0:Kd.C Kd.string w A0 l0.length l0) (hp:Pred_s192 p w l0) :
 Calls Tryz.prog 286 #[.slice A0 l0.length c0,.func (.func 192) #[] #[]] w fun e w'=>e=.returned (.int .i64 (idxP p l0 0))∧Below w.heap.size w w':=by
 have HR0:=am hr0;have HP:=am hp;clear hr0 hp;go_enter Tryz.func286,Tryz.ntmps286;go_wp2;have hlen:l0.length≤9223372036854775807:=HR0.out.2.1
 go_loopw [8] (fun i wr=>∃ k:Nat,k≤l0.length∧i=.int .i64 k∧Aside0 (idxP p (l0.drop k) k=idxP p l0 0)∧Aside0 (Below w.heap.size w wr)) (fun i _=>l0.length - (intOf i).toNat)
 case atStart=>exact ⟨0,Nat.zero_le _,rfl,⟨rfl⟩,⟨Below.refl _ _⟩⟩
 case round=>
  obtain ⟨k,hk,rfl,HI,HB⟩:=hrel
  by_cases hlt:k<l0.length
  ·obtain ⟨ad,e0,hx0⟩:=Kd.at_string HR0.out (k:Int) (by omega) (by omega);subst e0;rw [rdStr_get hlt] at hx0;have hx1:=(pb HB.out hx0);rw [Int.toNat_natCast] at hx1;clear hx0;obtain ⟨y,hy⟩:∃ y,y=l0[k]:=⟨_,rfl⟩;rw [← hy] at hx1;have HC:=am (HP.out y (by rw [hy];exact List.getElem_mem _) wr HB.out);have HD:Aside0 (l0.drop k=y :: l0.drop (k+1)):=⟨(List.drop_eq_getElem_cons hlt).trans (by rw [← hy])⟩;clear hy;go_wp2_with fail;refine HC.out.mono ?_;rintro e w1 ⟨rfl,hb⟩;have HB1:=am (below_then HB.out HB.out.size hb);clear hb HB HC
   by_cases hpy:p y=true
   ·go_wp2_with fail;go_ret;exact ⟨by have h:=HI.out;rw [HD.out] at h;rw [← h];simp [idxP,hpy],HB1.out⟩
   ·have hpf:p y=false:=by simpa using hpy
    have HI1:Aside0 (idxP p (l0.drop (k+1)) (k+1)=idxP p l0 0):=⟨by have h:=HI.out;rw [HD.out] at h;rw [← h];simp [idxP,hpf]⟩;clear HI hpy;go_wp2_with fail
    go_roundw
    case rel=>exact ⟨k+1,by omega,by go_num,HI1,HB1⟩
    case measure=>simp [intOf];omega
  ·go_wp2_with fail;go_ret;exact ⟨by
    have h:=HI.out;rw [List.drop_of_length_le (by omega)] at h;rw [← h];rfl,HB.out⟩
theorem contains_s192 (p:ByteArray→Bool) (A0:Option Addr) (c0:Nat) (l0:List ByteArray) (w:World) (hr0:Kd.C Kd.string w A0 l0.length l0) (hp:Pred_s192 p w l0) :
 Calls Tryz.prog 191 #[.slice A0 l0.length c0,.func (.func 192) #[] #[]] w fun e w'=>e=.returned (.bool (l0.any p))∧Below w.heap.size w w':=by
 have HI:=am (idxP_ge p l0 0);have HC:=am (index_s192 p A0 c0 l0 w hr0 hp);clear hr0 hp;generalize idxP p l0 0=q at HI HC;generalize l0.any p=b at HI;go_enter Tryz.func191,Tryz.ntmps191;go_wp2_with fail;refine HC.out.mono ?_;rintro e w1 ⟨rfl,hb⟩;have HB:=am hb;clear hb HC;go_wp2_with fail;go_ret;exact ⟨by rw [← HI.out];rfl,HB.out⟩
def Pred_s193 (p:ByteArray→Bool) (w:World) (l0:List ByteArray):Prop:=∀ x,x∈l0→∀ W,Below w.heap.size w W→Calls Tryz.prog 193 #[.string x] W fun e W'=>e=.returned (.bool (p x))∧Below W.heap.size W W'
set_option maxHeartbeats 1000000 in
theorem index_s193 (p:ByteArray→Bool) (A0:Option Addr) (c0:Nat) (l0:List ByteArray) (w:World) (hr0:Kd.C Kd.string w A0 l0.length l0) (hp:Pred_s193 p w l0) :
 Calls Tryz.prog 286 #[.slice A0 l0.length c0,.func (.func 193) #[] #[]] w fun e w'=>e=.returned (.int .i64 (idxP p l0 0))∧Below w.heap.size w w':=by
 have HR0:=am hr0;have HP:=am hp;clear hr0 hp;go_enter Tryz.func286,Tryz.ntmps286;go_wp2;have hlen:l0.length≤9223372036854775807:=HR0.out.2.1
 go_loopw [8] (fun i wr=>∃ k:Nat,k≤l0.length∧i=.int .i64 k∧Aside0 (idxP p (l0.drop k) k=idxP p l0 0)∧Aside0 (Below w.heap.size w wr)) (fun i _=>l0.length - (intOf i).toNat)
 case atStart=>exact ⟨0,Nat.zero_le _,rfl,⟨rfl⟩,⟨Below.refl _ _⟩⟩
 case round=>
  obtain ⟨k,hk,rfl,HI,HB⟩:=hrel
  by_cases hlt:k<l0.length
  ·obtain ⟨ad,e0,hx0⟩:=Kd.at_string HR0.out (k:Int) (by omega) (by omega);subst e0;rw [rdStr_get hlt] at hx0;have hx1:=(pb HB.out hx0);rw [Int.toNat_natCast] at hx1;clear hx0;obtain ⟨y,hy⟩:∃ y,y=l0[k]:=⟨_,rfl⟩;rw [← hy] at hx1;have HC:=am (HP.out y (by rw [hy];exact List.getElem_mem _) wr HB.out);have HD:Aside0 (l0.drop k=y :: l0.drop (k+1)):=⟨(List.drop_eq_getElem_cons hlt).trans (by rw [← hy])⟩;clear hy;go_wp2_with fail;refine HC.out.mono ?_;rintro e w1 ⟨rfl,hb⟩;have HB1:=am (below_then HB.out HB.out.size hb);clear hb HB HC
   by_cases hpy:p y=true
   ·go_wp2_with fail;go_ret;exact ⟨by have h:=HI.out;rw [HD.out] at h;rw [← h];simp [idxP,hpy],HB1.out⟩
   ·have hpf:p y=false:=by simpa using hpy
    have HI1:Aside0 (idxP p (l0.drop (k+1)) (k+1)=idxP p l0 0):=⟨by have h:=HI.out;rw [HD.out] at h;rw [← h];simp [idxP,hpf]⟩;clear HI hpy;go_wp2_with fail
    go_roundw
    case rel=>exact ⟨k+1,by omega,by go_num,HI1,HB1⟩
    case measure=>simp [intOf];omega
  ·go_wp2_with fail;go_ret;exact ⟨by
    have h:=HI.out;rw [List.drop_of_length_le (by omega)] at h;rw [← h];rfl,HB.out⟩
theorem contains_s193 (p:ByteArray→Bool) (A0:Option Addr) (c0:Nat) (l0:List ByteArray) (w:World) (hr0:Kd.C Kd.string w A0 l0.length l0) (hp:Pred_s193 p w l0) :
 Calls Tryz.prog 191 #[.slice A0 l0.length c0,.func (.func 193) #[] #[]] w fun e w'=>e=.returned (.bool (l0.any p))∧Below w.heap.size w w':=by
 have HI:=am (idxP_ge p l0 0);have HC:=am (index_s193 p A0 c0 l0 w hr0 hp);clear hr0 hp;generalize idxP p l0 0=q at HI HC;generalize l0.any p=b at HI;go_enter Tryz.func191,Tryz.ntmps191;go_wp2_with fail;refine HC.out.mono ?_;rintro e w1 ⟨rfl,hb⟩;have HB:=am hb;clear hb HC;go_wp2_with fail;go_ret;exact ⟨by rw [← HI.out];rfl,HB.out⟩
def Pred_s198 (gb:Nat) (p:ByteArray→Bool) (w:World) (l0:List ByteArray):Prop:=∀ x,x∈l0→∀ W,Below w.heap.size w W→Calls Tryz.prog 198 #[.string x,.pointer (some ⟨gb,0,none⟩)] W fun e W'=>e=.returned (.bool (p x))∧Below W.heap.size W W'
set_option maxHeartbeats 1000000 in
theorem index_s198 (gb:Nat) (p:ByteArray→Bool) (A0:Option Addr) (c0:Nat) (l0:List ByteArray) (w:World) (hr0:Kd.C Kd.string w A0 l0.length l0) (hp:Pred_s198 gb p w l0) :
 Calls Tryz.prog 286 #[.slice A0 l0.length c0,.func (.func 198) #[] #[.pointer (some ⟨gb,0,none⟩)]] w fun e w'=>e=.returned (.int .i64 (idxP p l0 0))∧Below w.heap.size w w':=by
 have HR0:=am hr0;have HP:=am hp;clear hr0 hp;go_enter Tryz.func286,Tryz.ntmps286;go_wp2;have hlen:l0.length≤9223372036854775807:=HR0.out.2.1
 go_loopw [8] (fun i wr=>∃ k:Nat,k≤l0.length∧i=.int .i64 k∧Aside0 (idxP p (l0.drop k) k=idxP p l0 0)∧Aside0 (Below w.heap.size w wr)) (fun i _=>l0.length - (intOf i).toNat)
 case atStart=>exact ⟨0,Nat.zero_le _,rfl,⟨rfl⟩,⟨Below.refl _ _⟩⟩
 case round=>
  obtain ⟨k,hk,rfl,HI,HB⟩:=hrel
  by_cases hlt:k<l0.length
  ·obtain ⟨ad,e0,hx0⟩:=Kd.at_string HR0.out (k:Int) (by omega) (by omega);subst e0;rw [rdStr_get hlt] at hx0;have hx1:=(pb HB.out hx0);rw [Int.toNat_natCast] at hx1;clear hx0;obtain ⟨y,hy⟩:∃ y,y=l0[k]:=⟨_,rfl⟩;rw [← hy] at hx1;have HC:=am (HP.out y (by rw [hy];exact List.getElem_mem _) wr HB.out);have HD:Aside0 (l0.drop k=y :: l0.drop (k+1)):=⟨(List.drop_eq_getElem_cons hlt).trans (by rw [← hy])⟩;clear hy;go_wp2_with fail;refine HC.out.mono ?_;rintro e w1 ⟨rfl,hb⟩;have HB1:=am (below_then HB.out HB.out.size hb);clear hb HB HC
   by_cases hpy:p y=true
   ·go_wp2_with fail;go_ret;exact ⟨by have h:=HI.out;rw [HD.out] at h;rw [← h];simp [idxP,hpy],HB1.out⟩
   ·have hpf:p y=false:=by simpa using hpy
    have HI1:Aside0 (idxP p (l0.drop (k+1)) (k+1)=idxP p l0 0):=⟨by have h:=HI.out;rw [HD.out] at h;rw [← h];simp [idxP,hpf]⟩;clear HI hpy;go_wp2_with fail
    go_roundw
    case rel=>exact ⟨k+1,by omega,by go_num,HI1,HB1⟩
    case measure=>simp [intOf];omega
  ·go_wp2_with fail;go_ret;exact ⟨by
    have h:=HI.out;rw [List.drop_of_length_le (by omega)] at h;rw [← h];rfl,HB.out⟩
theorem contains_s198 (gb:Nat) (p:ByteArray→Bool) (A0:Option Addr) (c0:Nat) (l0:List ByteArray) (w:World) (hr0:Kd.C Kd.string w A0 l0.length l0) (hp:Pred_s198 gb p w l0) :
 Calls Tryz.prog 191 #[.slice A0 l0.length c0,.func (.func 198) #[] #[.pointer (some ⟨gb,0,none⟩)]] w fun e w'=>e=.returned (.bool (l0.any p))∧Below w.heap.size w w':=by
 have HI:=am (idxP_ge p l0 0);have HC:=am (index_s198 gb p A0 c0 l0 w hr0 hp);clear hr0 hp;generalize idxP p l0 0=q at HI HC;generalize l0.any p=b at HI;go_enter Tryz.func191,Tryz.ntmps191;go_wp2_with fail;refine HC.out.mono ?_;rintro e w1 ⟨rfl,hb⟩;have HB:=am hb;clear hb HC;go_wp2_with fail;go_ret;exact ⟨by rw [← HI.out];rfl,HB.out⟩
def Pred_d195 (p:S65→Bool) (w:World) (l0:List S65):Prop:=∀ x A1 c1 A2 c2,x∈l0→∀ W,Below w.heap.size w W→RdDef W x A1 c1 A2 c2→Calls Tryz.prog 195 #[.agg #[.string x.f0,.slice A1 x.f1.length c1,.slice A2 x.f2.f0.length c2]] W fun e W'=>e=.returned (.bool (p x))∧Below W.heap.size W W'
set_option maxHeartbeats 1000000 in
theorem index_d195 (p:S65→Bool) (A0:Option Addr) (c0:Nat) (l0:List S65) (w:World) (hr0:Kd.C k65 w A0 l0.length l0) (hp:Pred_d195 p w l0) :
 Calls Tryz.prog 212 #[.slice A0 l0.length c0,.func (.func 195) #[] #[]] w fun e w'=>e=.returned (.int .i64 (idxP p l0 0))∧Below w.heap.size w w':=by
 have HR0:=am hr0;have HP:=am hp;clear hr0 hp;have hu65:=Tryz.underlying65;go_enter Tryz.func212,Tryz.ntmps212;go_wp2;have hlen:l0.length≤9223372036854775807:=HR0.out.2.1
 go_loopw [8] (fun i wr=>∃ k:Nat,k≤l0.length∧i=.int .i64 k∧Aside0 (idxP p (l0.drop k) k=idxP p l0 0)∧Aside0 (Below w.heap.size w wr)) (fun i _=>l0.length - (intOf i).toNat)
 case atStart=>exact ⟨0,Nat.zero_le _,rfl,⟨rfl⟩,⟨Below.refl _ _⟩⟩
 case round=>
  obtain ⟨k,hk,rfl,HI,HB⟩:=hrel
  by_cases hlt:k<l0.length
  ·obtain ⟨ad,A1,c1,A2,c2,e0,hx0,hx1,hx2,z1,z2,z3,z4⟩:=at_T65 HR0.out (k:Int) (by omega) (by omega);subst e0;rw [rdT65_get hlt] at hx0 hx1 hx2 z1 z2 z3 z4;obtain ⟨y,hy⟩:∃ y,y=l0[k]:=⟨_,rfl⟩;rw [← hy] at hx0 hx1 hx2 z1 z2 z3 z4;replace hx0:=(pb HB.out hx0);replace hx1:=(pb HB.out hx1);replace hx2:=(pb HB.out hx2);simp only [Int.toNat_natCast] at hx0 hx1 hx2;have HC:=am (HP.out y A1 c1 A2 c2 (by rw [hy];exact List.getElem_mem _) wr HB.out ⟨z1,Kd.C_below z2 HB.out,z3,Kd.C_below z4 HB.out⟩);clear z1 z2 z3 z4;have HD:Aside0 (l0.drop k=y :: l0.drop (k+1)):=⟨(List.drop_eq_getElem_cons hlt).trans (by rw [← hy])⟩;clear hy;go_wp2_with fail;refine HC.out.mono ?_;rintro e w1 ⟨rfl,hb⟩;have HB1:=am (below_then HB.out HB.out.size hb);clear hb HB HC
   by_cases hpy:p y=true
   ·go_wp2_with fail;go_ret;exact ⟨by have h:=HI.out;rw [HD.out] at h;rw [← h];simp [idxP,hpy],HB1.out⟩
   ·have hpf:p y=false:=by simpa using hpy
    have HI1:Aside0 (idxP p (l0.drop (k+1)) (k+1)=idxP p l0 0):=⟨by have h:=HI.out;rw [HD.out] at h;rw [← h];simp [idxP,hpf]⟩;clear HI hpy;go_wp2_with fail
    go_roundw
    case rel=>exact ⟨k+1,by omega,by go_num,HI1,HB1⟩
    case measure=>simp [intOf];omega
  ·go_wp2_with fail;go_ret;exact ⟨by
    have h:=HI.out;rw [List.drop_of_length_le (by omega)] at h;rw [← h];rfl,HB.out⟩
theorem contains_d195 (p:S65→Bool) (A0:Option Addr) (c0:Nat) (l0:List S65) (w:World) (hr0:Kd.C k65 w A0 l0.length l0) (hp:Pred_d195 p w l0) :
 Calls Tryz.prog 194 #[.slice A0 l0.length c0,.func (.func 195) #[] #[]] w fun e w'=>e=.returned (.bool (l0.any p))∧Below w.heap.size w w':=by
 have HI:=am (idxP_ge p l0 0);have HC:=am (index_d195 p A0 c0 l0 w hr0 hp);clear hr0 hp;generalize idxP p l0 0=q at HI HC;generalize l0.any p=b at HI;go_enter Tryz.func194,Tryz.ntmps194;go_wp2_with fail;refine HC.out.mono ?_;rintro e w1 ⟨rfl,hb⟩;have HB:=am hb;clear hb HC;go_wp2_with fail;go_ret;exact ⟨by rw [← HI.out];rfl,HB.out⟩
def Pred_d197 (p:S65→Bool) (w:World) (l0:List S65):Prop:=∀ x A1 c1 A2 c2,x∈l0→∀ W,Below w.heap.size w W→RdDef W x A1 c1 A2 c2→Calls Tryz.prog 197 #[.agg #[.string x.f0,.slice A1 x.f1.length c1,.slice A2 x.f2.f0.length c2]] W fun e W'=>e=.returned (.bool (p x))∧Below W.heap.size W W'
set_option maxHeartbeats 1000000 in
theorem index_d197 (p:S65→Bool) (A0:Option Addr) (c0:Nat) (l0:List S65) (w:World) (hr0:Kd.C k65 w A0 l0.length l0) (hp:Pred_d197 p w l0) :
 Calls Tryz.prog 212 #[.slice A0 l0.length c0,.func (.func 197) #[] #[]] w fun e w'=>e=.returned (.int .i64 (idxP p l0 0))∧Below w.heap.size w w':=by
 have HR0:=am hr0;have HP:=am hp;clear hr0 hp;have hu65:=Tryz.underlying65;go_enter Tryz.func212,Tryz.ntmps212;go_wp2;have hlen:l0.length≤9223372036854775807:=HR0.out.2.1
 go_loopw [8] (fun i wr=>∃ k:Nat,k≤l0.length∧i=.int .i64 k∧Aside0 (idxP p (l0.drop k) k=idxP p l0 0)∧Aside0 (Below w.heap.size w wr)) (fun i _=>l0.length - (intOf i).toNat)
 case atStart=>exact ⟨0,Nat.zero_le _,rfl,⟨rfl⟩,⟨Below.refl _ _⟩⟩
 case round=>
  obtain ⟨k,hk,rfl,HI,HB⟩:=hrel
  by_cases hlt:k<l0.length
  ·obtain ⟨ad,A1,c1,A2,c2,e0,hx0,hx1,hx2,z1,z2,z3,z4⟩:=at_T65 HR0.out (k:Int) (by omega) (by omega);subst e0;rw [rdT65_get hlt] at hx0 hx1 hx2 z1 z2 z3 z4;obtain ⟨y,hy⟩:∃ y,y=l0[k]:=⟨_,rfl⟩;rw [← hy] at hx0 hx1 hx2 z1 z2 z3 z4;replace hx0:=(pb HB.out hx0);replace hx1:=(pb HB.out hx1);replace hx2:=(pb HB.out hx2);simp only [Int.toNat_natCast] at hx0 hx1 hx2;have HC:=am (HP.out y A1 c1 A2 c2 (by rw [hy];exact List.getElem_mem _) wr HB.out ⟨z1,Kd.C_below z2 HB.out,z3,Kd.C_below z4 HB.out⟩);clear z1 z2 z3 z4;have HD:Aside0 (l0.drop k=y :: l0.drop (k+1)):=⟨(List.drop_eq_getElem_cons hlt).trans (by rw [← hy])⟩;clear hy;go_wp2_with fail;refine HC.out.mono ?_;rintro e w1 ⟨rfl,hb⟩;have HB1:=am (below_then HB.out HB.out.size hb);clear hb HB HC
   by_cases hpy:p y=true
   ·go_wp2_with fail;go_ret;exact ⟨by have h:=HI.out;rw [HD.out] at h;rw [← h];simp [idxP,hpy],HB1.out⟩
   ·have hpf:p y=false:=by simpa using hpy
    have HI1:Aside0 (idxP p (l0.drop (k+1)) (k+1)=idxP p l0 0):=⟨by have h:=HI.out;rw [HD.out] at h;rw [← h];simp [idxP,hpf]⟩;clear HI hpy;go_wp2_with fail
    go_roundw
    case rel=>exact ⟨k+1,by omega,by go_num,HI1,HB1⟩
    case measure=>simp [intOf];omega
  ·go_wp2_with fail;go_ret;exact ⟨by
    have h:=HI.out;rw [List.drop_of_length_le (by omega)] at h;rw [← h];rfl,HB.out⟩
theorem contains_d197 (p:S65→Bool) (A0:Option Addr) (c0:Nat) (l0:List S65) (w:World) (hr0:Kd.C k65 w A0 l0.length l0) (hp:Pred_d197 p w l0) :
 Calls Tryz.prog 194 #[.slice A0 l0.length c0,.func (.func 197) #[] #[]] w fun e w'=>e=.returned (.bool (l0.any p))∧Below w.heap.size w w':=by
 have HI:=am (idxP_ge p l0 0);have HC:=am (index_d197 p A0 c0 l0 w hr0 hp);clear hr0 hp;generalize idxP p l0 0=q at HI HC;generalize l0.any p=b at HI;go_enter Tryz.func194,Tryz.ntmps194;go_wp2_with fail;refine HC.out.mono ?_;rintro e w1 ⟨rfl,hb⟩;have HB:=am hb;clear hb HC;go_wp2_with fail;go_ret;exact ⟨by rw [← HI.out];rfl,HB.out⟩
def Pred_d213 (gb:Nat) (p:S65→Bool) (w:World) (l0:List S65):Prop:=∀ x A1 c1 A2 c2,x∈l0→∀ W,Below w.heap.size w W→RdDef W x A1 c1 A2 c2→Calls Tryz.prog 213 #[.agg #[.string x.f0,.slice A1 x.f1.length c1,.slice A2 x.f2.f0.length c2],.pointer (some ⟨gb,0,none⟩)] W fun e W'=>e=.returned (.bool (p x))∧Below W.heap.size W W'
set_option maxHeartbeats 1000000 in
theorem index_d213 (gb:Nat) (p:S65→Bool) (A0:Option Addr) (c0:Nat) (l0:List S65) (w:World) (hr0:Kd.C k65 w A0 l0.length l0) (hp:Pred_d213 gb p w l0) :
 Calls Tryz.prog 212 #[.slice A0 l0.length c0,.func (.func 213) #[] #[.pointer (some ⟨gb,0,none⟩)]] w fun e w'=>e=.returned (.int .i64 (idxP p l0 0))∧Below w.heap.size w w':=by
 have HR0:=am hr0;have HP:=am hp;clear hr0 hp;have hu65:=Tryz.underlying65;go_enter Tryz.func212,Tryz.ntmps212;go_wp2;have hlen:l0.length≤9223372036854775807:=HR0.out.2.1
 go_loopw [8] (fun i wr=>∃ k:Nat,k≤l0.length∧i=.int .i64 k∧Aside0 (idxP p (l0.drop k) k=idxP p l0 0)∧Aside0 (Below w.heap.size w wr)) (fun i _=>l0.length - (intOf i).toNat)
 case atStart=>exact ⟨0,Nat.zero_le _,rfl,⟨rfl⟩,⟨Below.refl _ _⟩⟩
 case round=>
  obtain ⟨k,hk,rfl,HI,HB⟩:=hrel
  by_cases hlt:k<l0.length
  ·obtain ⟨ad,A1,c1,A2,c2,e0,hx0,hx1,hx2,z1,z2,z3,z4⟩:=at_T65 HR0.out (k:Int) (by omega) (by omega);subst e0;rw [rdT65_get hlt] at hx0 hx1 hx2 z1 z2 z3 z4;obtain ⟨y,hy⟩:∃ y,y=l0[k]:=⟨_,rfl⟩;rw [← hy] at hx0 hx1 hx2 z1 z2 z3 z4;replace hx0:=(pb HB.out hx0);replace hx1:=(pb HB.out hx1);replace hx2:=(pb HB.out hx2);simp only [Int.toNat_natCast] at hx0 hx1 hx2;have HC:=am (HP.out y A1 c1 A2 c2 (by rw [hy];exact List.getElem_mem _) wr HB.out ⟨z1,Kd.C_below z2 HB.out,z3,Kd.C_below z4 HB.out⟩);clear z1 z2 z3 z4;have HD:Aside0 (l0.drop k=y :: l0.drop (k+1)):=⟨(List.drop_eq_getElem_cons hlt).trans (by rw [← hy])⟩;clear hy;go_wp2_with fail;refine HC.out.mono ?_;rintro e w1 ⟨rfl,hb⟩;have HB1:=am (below_then HB.out HB.out.size hb);clear hb HB HC
   by_cases hpy:p y=true
   ·go_wp2_with fail;go_ret;exact ⟨by have h:=HI.out;rw [HD.out] at h;rw [← h];simp [idxP,hpy],HB1.out⟩
   ·have hpf:p y=false:=by simpa using hpy
    have HI1:Aside0 (idxP p (l0.drop (k+1)) (k+1)=idxP p l0 0):=⟨by have h:=HI.out;rw [HD.out] at h;rw [← h];simp [idxP,hpf]⟩;clear HI hpy;go_wp2_with fail
    go_roundw
    case rel=>exact ⟨k+1,by omega,by go_num,HI1,HB1⟩
    case measure=>simp [intOf];omega
  ·go_wp2_with fail;go_ret;exact ⟨by
    have h:=HI.out;rw [List.drop_of_length_le (by omega)] at h;rw [← h];rfl,HB.out⟩
end Go.Proofs.YtbahacapnaohcaaGreatDoor.PB
