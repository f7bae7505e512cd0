import Derived.Test.YtbahacapnaohcaaGreatDoorA22
import Derived.Test.YtbahacapnaohcaaGreatDoorPBx25
import Derived.Test.YtbahacapnaohcaaGreatDoorY
import Derived.Test.YtbahacapnaohcaaGreatDoorA8
import Derived.Test.YtbahacapnaohcaaGreatDoorPBx62
import Derived.Test.YtbahacapnaohcaaGreatDoorA14
import Derived.Test.YtbahacapnaohcaaGreatDoorA26
set_option linter.unusedVariables false
set_option linter.unusedSimpArgs false
namespace Go.Proofs.YtbahacapnaohcaaGreatDoor.PB
open Go.RowKit Go.Proofs.YtbahacapnaohcaaGreatDoorW.PrintWords Go.Proofs.YtbahacapnaohcaaGreatDoorW.PrintLast Go.Proofs.YtbahacapnaohcaaGreatDoorW.PrintMore
theorem copy_l0 (l:List ByteArray) (hl:l.length≤1073741824):∀ (n k d:Nat) (acc:List ByteArray),l.length - k=n→k≤l.length→acc=l.take k→n<d→spec_l14Copy.l0 d l acc (k:Int)=some l
 | n,k,0,_,_,_,_,h=>by omega
 | n,k,d+1,acc,hn,hk,ha,hd=>by
  have hal:acc.length=k:=by rw [ha,List.length_take];omega
  unfold spec_l14Copy.l0
  by_cases hlt:k<l.length
  ·rw [if_pos (by omega),if_pos (by omega),if_pos (by omega),rdS hlt,w64_succ hlt (by omega)];exact copy_l0 l hl (l.length - (k+1)) (k+1) d _ rfl (by omega) (by rw [ha,List.take_succ_eq_append_getElem hlt]) (by omega)
  ·rw [if_neg (by omega),ha,List.take_of_length_le (by omega)]
theorem copy_f (l:List ByteArray) (hl:l.length≤1073741824) (d:Nat) (hd:l.length<d):spec_l14Copy.f d l=some l:=by
 have:=copy_l0 l hl l.length 0 d [] rfl (by omega) (by simp) hd;rw [show ((0:Nat):Int)=0 from rfl] at this;exact this
theorem same_l0 (l:List S102) (hl:l.length≤1073741824):∀ (n k d:Nat) (acc:List S102),l.length - k=n→k≤l.length→acc=l.take k→n<d→spec_l14Same.l0 d (k:Int) l acc=some l
 | n,k,0,_,_,_,_,h=>by omega
 | n,k,d+1,acc,hn,hk,ha,hd=>by
  have hal:acc.length=k:=by rw [ha,List.length_take];omega
  unfold spec_l14Same.l0
  by_cases hlt:k<l.length
  ·rw [if_pos (by omega),if_pos (by omega),if_pos (by omega),rd102 hlt,w64_succ hlt (by omega)];exact same_l0 l hl (l.length - (k+1)) (k+1) d _ rfl (by omega) (by rw [ha,List.take_succ_eq_append_getElem hlt]) (by omega)
  ·rw [if_neg (by omega),ha,List.take_of_length_le (by omega)]
theorem same_f (l:List S102) (hl:l.length≤1073741824) (d:Nat) (hd:l.length<d):spec_l14Same.f d l=some l:=by
 have:=same_l0 l hl l.length 0 d [] rfl (by omega) (by simp) hd;rw [show ((0:Nat):Int)=0 from rfl] at this;exact this
theorem own_l1 {M:Nat} {l0:List S65} {l1:List ByteArray} {l2:List S63} (H:CapP M l0 l1 l2) (y0:List S65) (y1:List ByteArray):∀ (n k d:Nat) (acc:List S63),l2.length - k=n→k≤l2.length→acc=l2.take k→n+M<d→spec_l14Own.l1 d (k:Int) l0 l1 l2 y0 y1 acc=some (y0,y1,l2)
 | n,k,0,_,_,_,_,h=>by omega
 | n,k,d+1,acc,hn,hk,ha,hd=>by
  have hM:=H.hM;have hN:=H.n2;have hal:acc.length=k:=by rw [ha,List.length_take];omega
  simp only [spec_l14Own.l1]
  by_cases hlt:k<l2.length
  ·have hx:=List.getElem_mem hlt;have h1:=H.lefn _ hx;have h2:=H.rign _ hx;rw [if_pos (by omega),if_pos (by omega),rd63 hlt,same_f _ (by omega) d (by omega),Option.bind_some,same_f _ (by omega) d (by omega),Option.bind_some,if_pos (by omega),w64_succ hlt (by omega)];exact own_l1 H y0 y1 (l2.length - (k+1)) (k+1) d _ rfl (by omega) (by rw [ha,List.take_succ_eq_append_getElem hlt]) (by omega)
  ·rw [if_neg (by omega),ha,List.take_of_length_le (by omega)]
theorem own_l0 {M:Nat} {l0:List S65} {l1:List ByteArray} {l2:List S63} (H:CapP M l0 l1 l2) (y1:List ByteArray):∀ (n k d:Nat) (acc:List S65),l0.length - k=n→k≤l0.length→acc=l0.take k→n+2 * M+1<d→spec_l14Own.l0 d (k:Int) l0 l1 l2 acc y1=some (l0,y1,l2)
 | n,k,0,_,_,_,_,h=>by omega
 | n,k,d+1,acc,hn,hk,ha,hd=>by
  have hM:=H.hM;have hN:=H.n0;have hN2:=H.n2;have hal:acc.length=k:=by rw [ha,List.length_take];omega
  simp only [spec_l14Own.l0]
  by_cases hlt:k<l0.length
  ·have hx:=List.getElem_mem hlt;have h1:=H.parn _ hx;have h2:=H.bodn _ hx;rw [if_pos (by omega),if_pos (by omega),rd65 hlt,copy_f _ (by omega) d (by omega),Option.bind_some,same_f _ (by omega) d (by omega),Option.bind_some,if_pos (by omega),w64_succ hlt (by omega)];exact own_l0 H y1 (l0.length - (k+1)) (k+1) d _ rfl (by omega) (by rw [ha,List.take_succ_eq_append_getElem hlt]) (by omega)
  ·have:=own_l1 H acc y1 l2.length 0 d [] rfl (by omega) (by simp) (by omega);rw [show ((0:Nat):Int)=0 from rfl] at this;rw [if_neg (by omega),this,ha,List.take_of_length_le (by omega)]
theorem own_f {M:Nat} {l0:List S65} {l1:List ByteArray} {l2:List S63} (H:CapP M l0 l1 l2) (d:Nat) (hd:3 * M+2<d):spec_l14Own.f d l0 l1 l2=some (l0,l1,l2):=by
 have hM:=H.hM;have hN:=H.n0;have hN1:=H.n1
 unfold spec_l14Own.f
 rw [copy_f l1 (by omega) d (by omega),Option.bind_some];have:=own_l0 H l1 l0.length 0 d [] rfl (by omega) (by simp) (by omega);rw [show ((0:Nat):Int)=0 from rfl] at this;exact this
theorem rot_get (l:List ByteArray) (n k:Nat) (hn:n<l.length) (hk:k<l.length) (h:(k+n) % l.length<l.length):(l.drop n++l.take n)[k]?=some l[(k+n) % l.length]:=by
 by_cases hs:k<l.length - n
 ·rw [List.getElem?_append_left (by rw [List.length_drop];exact hs),List.getElem?_drop];have e:(k+n) % l.length=n+k:=by rw [Nat.mod_eq_of_lt (by omega)];omega
  rw [List.getElem?_eq_getElem (by omega)]
  congr 2
  exact e.symm
 ·rw [List.getElem?_append_right (by rw [List.length_drop];omega),List.length_drop,List.getElem?_take,if_pos (by omega)];have e:(k+n) % l.length=k - (l.length - n):=by
   rw [Nat.mod_eq_sub_mod (by omega),Nat.mod_eq_of_lt (by omega)];omega
  rw [List.getElem?_eq_getElem (by omega)]
  congr 2
  exact e.symm
theorem shift_l0 {M:Nat} {l0:List S65} {l1:List ByteArray} {l2:List S63} (H:CapP M l0 l1 l2) (q:Nat) (hq:q<l1.length):∀ (n k d:Nat) (cur:List ByteArray),l1.length - k=n→k≤l1.length→cur.length=l1.length→cur.take k=(l1.drop q++l1.take q).take k→n<d→spec_ProgShift.l0 d (q:Int) (k:Int) l0 l1 l2 l0 cur l2=some (l0,l1.drop q++l1.take q,l2,true)
 | n,k,0,_,_,_,_,_,h=>by omega
 | n,k,d+1,cur,hn,hk,hl,ht,hd=>by
  have hM:=H.hM;have hN:=H.n1;have hrl:(l1.drop q++l1.take q).length=l1.length:=by rw [List.length_append,List.length_drop,List.length_take];omega
  simp only [spec_ProgShift.l0]
  by_cases hlt:k<l1.length
  ·have c1:(k:Int)<(l1.length:Int):=by omega
   have c2:¬ ((l1.length:Int)=0):=by omega
   have e1:wrap64 ((k:Int)+(q:Int))=((k+q:Nat):Int):=by unfold wrap64;omega
   have hm:(k+q) % l1.length<l1.length:=Nat.mod_lt _ (by omega);have hg:=rot_get l1 q k hq hlt hm;have e2:Int.tmod ((k+q:Nat):Int) (l1.length:Int)=(((k+q) % l1.length:Nat):Int):=
    (Int.tmod_eq_emod_of_nonneg (Int.natCast_nonneg _)).trans (Int.natCast_emod _ _).symm
   rw [if_pos c1,if_neg c2,e1,e2];clear e1 e2;generalize (k+q) % l1.length=r at *;rw [if_pos (by omega),if_pos (by omega),if_pos (by omega),if_pos (by omega),rdS hm,w64_succ hlt (by omega),Int.toNat_natCast];refine shift_l0 H q hq (l1.length - (k+1)) (k+1) d _ rfl (by omega) (by rw [List.length_set];exact hl) ?_ (by omega);rw [List.take_succ_eq_append_getElem (by rw [List.length_set];omega),List.take_succ_eq_append_getElem (by rw [hrl];exact hlt),List.take_set_of_le (Nat.le_refl _),ht,List.getElem_set_self]
   congr 2
   rw [List.getElem?_eq_getElem (by rw [hrl];exact hlt)] at hg;exact (Option.some.inj hg).symm
  ·rw [if_neg (by omega)];rw [List.take_of_length_le (by omega),List.take_of_length_le (by omega)] at ht;rw [ht]
theorem shift_f {M:Nat} {l0:List S65} {l1:List ByteArray} {l2:List S63} (H:CapP M l0 l1 l2) (n:Int) (d:Nat) (hd:10 * M+6400<d):spec_ProgShift.f d l0 l1 l2 n=some (if shiftOk l0 l1 l2 n=true then l0 else [],if shiftOk l0 l1 l2 n=true then l1.drop n.toNat++l1.take n.toNat else [],if shiftOk l0 l1 l2 n=true then l2 else [],shiftOk l0 l1 l2 n):=by
 have hM:=H.hM;have hN:=H.n1
 unfold spec_ProgShift.f
 rw [progCode_f H d (by omega),Option.bind_some];obtain ⟨d,rfl⟩:∃ m,d=m+1:=⟨d - 1,by omega⟩;have hno:spec_ProgShift.j0 (d+1) n true l0 l1 l2=some ([],[],[],false):=by simp only [spec_ProgShift.j0,if_true]
 by_cases hc:progCodeP l0 l1 l2=0
 ·rw [if_pos hc]
  by_cases h0:n<0
  ·rw [if_pos h0,hno];have:shiftOk l0 l1 l2 n=false:=by unfold shiftOk;rw [decide_eq_false (show ¬ 0≤n by omega)];simp
   rw [this];rfl
  ·rw [if_neg h0]
   by_cases h1:n≥(l1.length:Int)
   ·rw [decide_eq_true h1,hno];have:shiftOk l0 l1 l2 n=false:=by unfold shiftOk;rw [decide_eq_false (show ¬ n≤(l1.length:Int) - 1 by omega)];simp
    rw [this];rfl
   ·rw [decide_eq_false h1];have:shiftOk l0 l1 l2 n=true:=by unfold shiftOk;rw [decide_eq_true hc,decide_eq_true (show 0≤n by omega),decide_eq_true (show n≤(l1.length:Int) - 1 by omega)];rfl
    rw [this];simp only [spec_ProgShift.j0,Bool.false_eq_true,if_false,if_true];rw [own_f H d (by omega),Option.bind_some];obtain ⟨q,rfl⟩:∃ q:Nat,n=(q:Int):=⟨n.toNat,by omega⟩;have:=shift_l0 H q (by omega) l1.length 0 d l1 rfl (by omega) rfl (by simp) (by omega);rw [show ((0:Nat):Int)=0 from rfl] at this;rw [Int.toNat_natCast];exact this
 ·rw [if_neg hc,hno];have:shiftOk l0 l1 l2 n=false:=by unfold shiftOk;rw [decide_eq_false hc];rfl
  rw [this];rfl
structure CapQ (M:Nat) (q0:List S232) (q1:List ByteArray) (q2:List S235):Prop where
 n0:q0.length≤M
 n1:q1.length≤M
 n2:q2.length≤M
 defs:∀ x,x∈q0→x.f0.size≤M∧x.f1.length≤M∧CapS M x.f1∧x.f2.f0.length≤M∧∀ y,y∈x.f2.f0→y.f2.size≤M
 vars:CapS M q1
 rels:∀ x,x∈q2→x.f1.f0.length≤M∧(∀ y,y∈x.f1.f0→y.f2.size≤M)∧x.f2.f0.length≤M∧∀ y,y∈x.f2.f0→y.f2.size≤M
theorem rd338 {l:List S338} {k:Nat} (h:k<l.length):rd_T338 l (k:Int)=l[k]:=by
 unfold rd_T338;rw [Int.toNat_natCast,List.getD_eq_getElem?_getD,List.getElem?_eq_getElem h];rfl
theorem rd232 {l:List S232} {k:Nat} (h:k<l.length):rd_T232 l (k:Int)=l[k]:=by
 unfold rd_T232;rw [Int.toNat_natCast,List.getD_eq_getElem?_getD,List.getElem?_eq_getElem h];rfl
theorem rd235 {l:List S235} {k:Nat} (h:k<l.length):rd_T235 l (k:Int)=l[k]:=by
 unfold rd_T235;rw [Int.toNat_natCast,List.getD_eq_getElem?_getD,List.getElem?_eq_getElem h];rfl
def Sz (P:Prop) (a:Int) (o:Option Int):Prop:=∃ r,o=some r∧(r<0∨(0≤r∧r≤a∧P))
theorem wsub {a:Int} {n:Nat} (ha:a≤1048576) (h0:0≤a) (hn:n≤9223372036854775807):wrap64 (a - (n:Int))=a - (n:Int):=by unfold wrap64;omega
theorem szS_l0 (l:List ByteArray) (hn:l.length≤1048576) (hs:CapS 9223372036854775807 l):∀ (n k d:Nat) (a:Int),0≤a→a≤1048576→l.length - k=n→k≤l.length→n<d→Sz (∀ x,x∈l.drop k→x.size≤1048576) a (laws_szStringS.l0 d l a (k:Int))
 | n,k,0,a,_,_,_,_,h=>by omega
 | n,k,d+1,a,h0,h1,hn',hk,hd=>by
  unfold laws_szStringS.l0
  by_cases hlt:k<l.length
  ·have hx:=hs l[k] (List.getElem_mem _);rw [if_pos (by omega),if_pos (by omega),rdS hlt,wsub h1 h0 hx]
   by_cases hneg:a - (l[k].size:Int)<0
   ·rw [if_pos hneg];exact ⟨-1,rfl,.inl (by omega)⟩
   ·rw [if_neg hneg,w64_succ hlt (by omega)];obtain ⟨r,hr,h⟩:=szS_l0 l hn hs (l.length - (k+1)) (k+1) d (a - (l[k].size:Int)) (by omega) (by omega) rfl (by omega) (by omega);refine ⟨r,hr,h.imp id fun ⟨q0,q1,q2⟩=>⟨q0,by omega,fun x hx=>?_⟩⟩;rw [List.drop_eq_getElem_cons hlt] at hx
    rcases List.mem_cons.1 hx with rfl|hx
    ·omega
    ·exact q2 x hx
  ·rw [if_neg (by omega),List.drop_of_length_le (by omega)];exact ⟨a,rfl,.inr ⟨h0,Int.le_refl _,fun x hx=>by cases hx⟩⟩
theorem szS_f (l:List ByteArray) (hl:l.length≤9223372036854775807) (hs:CapS 9223372036854775807 l) (a:Int) (h0:0≤a) (h1:a≤1048576) (d:Nat) (hd:1048576<d):Sz (l.length≤1048576∧CapS 1048576 l) a (laws_szStringS.f d l a):=by
 unfold laws_szStringS.f
 rw [wsub h1 h0 hl]
 by_cases hneg:a - (l.length:Int)<0
 ·rw [if_pos hneg];exact ⟨-1,rfl,.inl (by omega)⟩
 ·rw [if_neg hneg];have:=szS_l0 l (by omega) hs l.length 0 d (a - (l.length:Int)) (by omega) (by omega) rfl (by omega) (by omega);rw [show ((0:Nat):Int)=0 from rfl,List.drop_zero] at this;obtain ⟨r,hr,h⟩:=this;exact ⟨r,hr,h.imp id fun ⟨q0,q1,q2⟩=>⟨q0,by omega,by omega,q2⟩⟩
theorem szN_l0 (l:List S338) (hn:l.length≤1048576) (hs:∀ y,y∈l→y.f2.size≤9223372036854775807):∀ (n k d:Nat) (a:Int),0≤a→a≤1048576→l.length - k=n→k≤l.length→n<d→Sz (∀ x,x∈l.drop k→x.f2.size≤1048576) a (laws_szTermNodeS.l0 d l a (k:Int))
 | n,k,0,a,_,_,_,_,h=>by omega
 | n,k,d+1,a,h0,h1,hn',hk,hd=>by
  unfold laws_szTermNodeS.l0
  by_cases hlt:k<l.length
  ·have hx:=hs l[k] (List.getElem_mem _);rw [if_pos (by omega),if_pos (by omega),rd338 hlt]
   unfold laws_szTermNode.f
   rw [wsub h1 h0 hx]
   by_cases hneg:a - (l[k].f2.size:Int)<0
   ·rw [if_pos hneg,Option.bind_some,if_pos (by omega)];exact ⟨-1,rfl,.inl (by omega)⟩
   ·rw [if_neg hneg,Option.bind_some,if_neg hneg,w64_succ hlt (by omega)];obtain ⟨r,hr,h⟩:=szN_l0 l hn hs (l.length - (k+1)) (k+1) d (a - (l[k].f2.size:Int)) (by omega) (by omega) rfl (by omega) (by omega);refine ⟨r,hr,h.imp id fun ⟨q0,q1,q2⟩=>⟨q0,by omega,fun x hx=>?_⟩⟩;rw [List.drop_eq_getElem_cons hlt] at hx
    rcases List.mem_cons.1 hx with rfl|hx
    ·omega
    ·exact q2 x hx
  ·rw [if_neg (by omega),List.drop_of_length_le (by omega)];exact ⟨a,rfl,.inr ⟨h0,Int.le_refl _,fun x hx=>by cases hx⟩⟩
theorem szN_f (l:List S338) (hl:l.length≤9223372036854775807) (hs:∀ y,y∈l→y.f2.size≤9223372036854775807) (a:Int) (h0:0≤a) (h1:a≤1048576) (d:Nat) (hd:1048576<d):Sz (l.length≤1048576∧∀ y,y∈l→y.f2.size≤1048576) a (laws_szTermNodeS.f d l a):=by
 unfold laws_szTermNodeS.f
 rw [wsub h1 h0 hl]
 by_cases hneg:a - (l.length:Int)<0
 ·rw [if_pos hneg];exact ⟨-1,rfl,.inl (by omega)⟩
 ·rw [if_neg hneg];have:=szN_l0 l (by omega) hs l.length 0 d (a - (l.length:Int)) (by omega) (by omega) rfl (by omega) (by omega);rw [show ((0:Nat):Int)=0 from rfl,List.drop_zero] at this;obtain ⟨r,hr,h⟩:=this;exact ⟨r,hr,h.imp id fun ⟨q0,q1,q2⟩=>⟨q0,by omega,by omega,q2⟩⟩
theorem Sz.then {P Q:Prop} {a:Int} {o:Option Int} {f:Int→Option Int} (h:Sz P a o) (ha:a≤1048576) (hf:∀ r,0≤r→r≤a→P→Sz Q r (f r)):Sz (P∧Q) a (o.bind fun t=>if t<0 then some (-1) else f t):=by
 obtain ⟨r,rfl,h⟩:=h;rw [Option.bind_some]
 rcases h with h|⟨h0,h1,hp⟩
 ·rw [if_pos h];exact ⟨-1,rfl,.inl (by omega)⟩
 ·rw [if_neg (by omega)];obtain ⟨r',hr',q⟩:=hf r h0 h1 hp;exact ⟨r',hr',q.imp id fun ⟨a0,a1,a2⟩=>⟨a0,by omega,hp,a2⟩⟩
theorem Sz.imp {P Q:Prop} {a:Int} {o:Option Int} (h:Sz P a o) (hq:P→Q):Sz Q a o:=by
 obtain ⟨r,hr,h⟩:=h;exact ⟨r,hr,h.imp id fun ⟨a0,a1,a2⟩=>⟨a0,a1,hq a2⟩⟩
theorem Sz.same {a r:Int} (h0:0≤r):Sz True r (some r):=⟨r,rfl,.inr ⟨h0,Int.le_refl _,trivial⟩⟩
abbrev BD:Nat:=9223372036854775807
theorem szTerm_f (l:List S338) (hl:l.length≤BD) (hs:∀ y,y∈l→y.f2.size≤BD) (a:Int) (h0:0≤a) (h1:a≤1048576) (d:Nat) (hd:1048576<d):Sz (l.length≤1048576∧∀ y,y∈l→y.f2.size≤1048576) a (laws_szTerm.f d l a):=by
 unfold laws_szTerm.f
 exact ((szN_f l hl hs a h0 h1 d hd).then h1 (fun r r0 _ _=>Sz.same (a:=r) r0)).imp fun h=>h.1
def OkD (x:S232):Prop:=x.f0.size≤BD∧x.f1.length≤BD∧CapS BD x.f1∧x.f2.f0.length≤BD∧∀ y,y∈x.f2.f0→y.f2.size≤BD
def OkR (x:S235):Prop:=x.f1.f0.length≤BD∧(∀ y,y∈x.f1.f0→y.f2.size≤BD)∧x.f2.f0.length≤BD∧∀ y,y∈x.f2.f0→y.f2.size≤BD
theorem szDef_f (x:S232) (h:OkD x) (a:Int) (h0:0≤a) (h1:a≤1048576) (d:Nat) (hd:1048576<d):Sz (x.f0.size≤1048576∧x.f1.length≤1048576∧CapS 1048576 x.f1∧x.f2.f0.length≤1048576∧∀ y,y∈x.f2.f0→y.f2.size≤1048576) a (laws_szProgDef.f d x.f0 x.f1 x.f2.f0 a):=by
 obtain ⟨g0,g1,g2,g3,g4⟩:=h
 unfold laws_szProgDef.f
 rw [wsub h1 h0 g0]
 by_cases hneg:a - (x.f0.size:Int)<0
 ·rw [if_pos hneg];exact ⟨-1,rfl,.inl (by omega)⟩
 ·rw [if_neg hneg];have hs:=(szS_f x.f1 g1 g2 (a - (x.f0.size:Int)) (by omega) (by omega) d hd).then (by omega) (fun r r0 r1 _=>(szTerm_f x.f2.f0 g3 g4 r r0 (by omega) d hd).then (by omega) (fun r' r0' _ _=>Sz.same (a:=r') r0'))
  obtain ⟨r,hr,q⟩:=hs;exact ⟨r,hr,q.imp id fun ⟨a0,a1,a2⟩=>⟨a0,by omega,by omega,a2.1.1,a2.1.2,a2.2.1.1,a2.2.1.2⟩⟩
theorem szRel_f (x:S235) (h:OkR x) (a:Int) (h0:0≤a) (h1:a≤1048576) (d:Nat) (hd:1048576<d):Sz (x.f1.f0.length≤1048576∧(∀ y,y∈x.f1.f0→y.f2.size≤1048576)∧x.f2.f0.length≤1048576∧∀ y,y∈x.f2.f0→y.f2.size≤1048576) a (laws_szProgRel.f d x.f0 x.f1.f0 x.f2.f0 a):=by
 obtain ⟨g1,g2,g3,g4⟩:=h
 unfold laws_szProgRel.f
 exact ((szTerm_f x.f1.f0 g1 g2 a h0 h1 d hd).then h1 (fun r r0 r1 _=>(szTerm_f x.f2.f0 g3 g4 r r0 (by omega) d hd).then (by omega) (fun r' r0' _ _=>Sz.same (a:=r') r0'))).imp fun h=>⟨h.1.1,h.1.2,h.2.1.1,h.2.1.2⟩
theorem szD_l0 (l:List S232) (hn:l.length≤1048576) (hs:∀ x,x∈l→OkD x):∀ (n k d:Nat) (a:Int),0≤a→a≤1048576→l.length - k=n→k≤l.length→n+1048577<d→Sz (∀ x,x∈l.drop k→x.f0.size≤1048576∧x.f1.length≤1048576∧CapS 1048576 x.f1∧x.f2.f0.length≤1048576∧∀ y,y∈x.f2.f0→y.f2.size≤1048576) a (laws_szProgDefS.l0 d l a (k:Int))
 | n,k,0,a,_,_,_,_,h=>by omega
 | n,k,d+1,a,h0,h1,hn',hk,hd=>by
  unfold laws_szProgDefS.l0
  by_cases hlt:k<l.length
  ·rw [if_pos (by omega),if_pos (by omega),rd232 hlt,w64_succ hlt (by omega)];refine ((szDef_f l[k] (hs _ (List.getElem_mem _)) a h0 h1 d (by omega)).then h1 (fun r r0 r1 _=>szD_l0 l hn hs (l.length - (k+1)) (k+1) d r r0 (by omega) rfl (by omega) (by omega))).imp fun ⟨q1,q2⟩ x hx=>?_
   rw [List.drop_eq_getElem_cons hlt] at hx
   rcases List.mem_cons.1 hx with rfl|hx
   ·exact q1
   ·exact q2 x hx
  ·rw [if_neg (by omega),List.drop_of_length_le (by omega)];exact ⟨a,rfl,.inr ⟨h0,Int.le_refl _,fun x hx=>by cases hx⟩⟩
theorem szD_f (l:List S232) (hl:l.length≤BD) (hs:∀ x,x∈l→OkD x) (a:Int) (h0:0≤a) (h1:a≤1048576) (d:Nat) (hd:2097153<d):Sz (l.length≤1048576∧∀ x,x∈l→x.f0.size≤1048576∧x.f1.length≤1048576∧CapS 1048576 x.f1∧x.f2.f0.length≤1048576∧∀ y,y∈x.f2.f0→y.f2.size≤1048576) a (laws_szProgDefS.f d l a):=by
 unfold laws_szProgDefS.f
 rw [wsub h1 h0 hl]
 by_cases hneg:a - (l.length:Int)<0
 ·rw [if_pos hneg];exact ⟨-1,rfl,.inl (by omega)⟩
 ·rw [if_neg hneg];have:=szD_l0 l (by omega) hs l.length 0 d (a - (l.length:Int)) (by omega) (by omega) rfl (by omega) (by omega);rw [show ((0:Nat):Int)=0 from rfl,List.drop_zero] at this;obtain ⟨r,hr,h⟩:=this;exact ⟨r,hr,h.imp id fun ⟨q0,q1,q2⟩=>⟨q0,by omega,by omega,q2⟩⟩
theorem szR_l0 (l:List S235) (hn:l.length≤1048576) (hs:∀ x,x∈l→OkR x):∀ (n k d:Nat) (a:Int),0≤a→a≤1048576→l.length - k=n→k≤l.length→n+1048577<d→Sz (∀ x,x∈l.drop k→x.f1.f0.length≤1048576∧(∀ y,y∈x.f1.f0→y.f2.size≤1048576)∧x.f2.f0.length≤1048576∧∀ y,y∈x.f2.f0→y.f2.size≤1048576) a (laws_szProgRelS.l0 d l a (k:Int))
 | n,k,0,a,_,_,_,_,h=>by omega
 | n,k,d+1,a,h0,h1,hn',hk,hd=>by
  unfold laws_szProgRelS.l0
  by_cases hlt:k<l.length
  ·rw [if_pos (by omega),if_pos (by omega),rd235 hlt,w64_succ hlt (by omega)];refine ((szRel_f l[k] (hs _ (List.getElem_mem _)) a h0 h1 d (by omega)).then h1 (fun r r0 r1 _=>szR_l0 l hn hs (l.length - (k+1)) (k+1) d r r0 (by omega) rfl (by omega) (by omega))).imp fun ⟨q1,q2⟩ x hx=>?_
   rw [List.drop_eq_getElem_cons hlt] at hx
   rcases List.mem_cons.1 hx with rfl|hx
   ·exact q1
   ·exact q2 x hx
  ·rw [if_neg (by omega),List.drop_of_length_le (by omega)];exact ⟨a,rfl,.inr ⟨h0,Int.le_refl _,fun x hx=>by cases hx⟩⟩
theorem szR_f (l:List S235) (hl:l.length≤BD) (hs:∀ x,x∈l→OkR x) (a:Int) (h0:0≤a) (h1:a≤1048576) (d:Nat) (hd:2097153<d):Sz (l.length≤1048576∧∀ x,x∈l→x.f1.f0.length≤1048576∧(∀ y,y∈x.f1.f0→y.f2.size≤1048576)∧x.f2.f0.length≤1048576∧∀ y,y∈x.f2.f0→y.f2.size≤1048576) a (laws_szProgRelS.f d l a):=by
 unfold laws_szProgRelS.f
 rw [wsub h1 h0 hl]
 by_cases hneg:a - (l.length:Int)<0
 ·rw [if_pos hneg];exact ⟨-1,rfl,.inl (by omega)⟩
 ·rw [if_neg hneg];have:=szR_l0 l (by omega) hs l.length 0 d (a - (l.length:Int)) (by omega) (by omega) rfl (by omega) (by omega);rw [show ((0:Nat):Int)=0 from rfl,List.drop_zero] at this;obtain ⟨r,hr,h⟩:=this;exact ⟨r,hr,h.imp id fun ⟨q0,q1,q2⟩=>⟨q0,by omega,by omega,q2⟩⟩
structure OkQ (q0:List S232) (q1:List ByteArray) (q2:List S235):Prop where
 n0:q0.length≤BD
 n1:q1.length≤BD
 n2:q2.length≤BD
 defs:∀ x,x∈q0→OkD x
 vars:CapS BD q1
 rels:∀ x,x∈q2→OkR x
theorem szProg_f (q0:List S232) (q1:List ByteArray) (q2:List S235) (h:OkQ q0 q1 q2) (a:Int) (h0:0≤a) (h1:a≤1048576) (d:Nat) (hd:2097153<d):Sz (CapQ 1048576 q0 q1 q2) a (laws_szProg.f d q0 q1 q2 a):=by
 unfold laws_szProg.f
 exact ((szD_f q0 h.n0 h.defs a h0 h1 d hd).then h1 (fun r r0 r1 _=>(szS_f q1 h.n1 h.vars r r0 (by omega) d (by omega)).then (by omega) (fun r' r0' r1' _=>(szR_f q2 h.n2 h.rels r' r0' (by omega) d hd).then (by omega) (fun r'' r0'' _ _=>Sz.same (a:=r'') r0'')))).imp fun ⟨⟨p1,p2⟩,⟨p3,p4⟩,⟨p5,p6⟩,_⟩=>⟨p1,p3,p5,p2,p4,p6⟩
theorem eqS_f (l:List ByteArray) (hn:l.length≤1048576) (d:Nat) (hd:l.length<d):laws_eqStringS.f d l l=some true:=by
 have key:∀ (n k d:Nat),l.length - k=n→k≤l.length→n<d→laws_eqStringS.l0 d l l (k:Int)=some true:=by
  intro n
  induction n with
  | zero=>
   intro k d h1 h2 h3;obtain ⟨d,rfl⟩:∃ m,d=m+1:=⟨d - 1,by omega⟩
   unfold laws_eqStringS.l0
   rw [if_neg (by omega)]
  | succ n ih=>
   intro k d h1 h2 h3;obtain ⟨d,rfl⟩:∃ m,d=m+1:=⟨d - 1,by omega⟩
   unfold laws_eqStringS.l0
   rw [if_pos (by omega),if_pos (by omega),if_pos (by omega),if_pos rfl,w64_succ (n:=l.length) (by omega) (by omega)];exact ih (k+1) d (by omega) (by omega) (by omega)
 unfold laws_eqStringS.f
 rw [if_pos rfl];exact key l.length 0 d rfl (by omega) hd
theorem eqN_f (l:List S102) (hn:l.length≤1048576) (d:Nat) (hd:l.length<d):laws_eqTermNodeS.f d l l=some true:=by
 have key:∀ (n k d:Nat),l.length - k=n→k≤l.length→n<d→laws_eqTermNodeS.l0 d l l (k:Int)=some true:=by
  intro n
  induction n with
  | zero=>
   intro k d h1 h2 h3;obtain ⟨d,rfl⟩:∃ m,d=m+1:=⟨d - 1,by omega⟩
   unfold laws_eqTermNodeS.l0
   rw [if_neg (by omega)]
  | succ n ih=>
   intro k d h1 h2 h3;obtain ⟨d,rfl⟩:∃ m,d=m+1:=⟨d - 1,by omega⟩
   unfold laws_eqTermNodeS.l0 laws_eqTermNode.f
   rw [if_pos (by omega),if_pos (by omega),if_pos (by omega),if_pos rfl,if_pos rfl,if_pos rfl,Option.bind_some,if_pos rfl,w64_succ (n:=l.length) (by omega) (by omega)];exact ih (k+1) d (by omega) (by omega) (by omega)
 unfold laws_eqTermNodeS.f
 rw [if_pos rfl];exact key l.length 0 d rfl (by omega) hd
theorem eqT_f (l:List S102) (hn:l.length≤1048576) (d:Nat) (hd:l.length<d):laws_eqTerm.f d l l=some true:=by
 unfold laws_eqTerm.f;rw [eqN_f l hn d hd];rfl
theorem eqD_f (l:List S65) (hn:l.length≤1048576) (hx:∀ x,x∈l→x.f1.length≤1048576∧x.f2.f0.length≤1048576) (d:Nat) (hd:l.length+1048577<d):laws_eqProgDefS.f d l l=some true:=by
 have key:∀ (n k d:Nat),l.length - k=n→k≤l.length→n+1048577<d→laws_eqProgDefS.l0 d l l (k:Int)=some true:=by
  intro n
  induction n with
  | zero=>
   intro k d h1 h2 h3;obtain ⟨d,rfl⟩:∃ m,d=m+1:=⟨d - 1,by omega⟩
   unfold laws_eqProgDefS.l0
   rw [if_neg (by omega)]
  | succ n ih=>
   intro k d h1 h2 h3;obtain ⟨d,rfl⟩:∃ m,d=m+1:=⟨d - 1,by omega⟩;have hlt:k<l.length:=by omega
   obtain ⟨g1,g2⟩:=hx _ (List.getElem_mem hlt)
   unfold laws_eqProgDefS.l0 laws_eqProgDef.f
   rw [if_pos (by omega),if_pos (by omega),if_pos (by omega),if_pos rfl,rd65 hlt,eqS_f _ g1 d (by omega),Option.bind_some,if_pos rfl,eqT_f _ g2 d (by omega),Option.bind_some,if_pos rfl,Option.bind_some,if_pos rfl,w64_succ hlt (by omega)];exact ih (k+1) d (by omega) (by omega) (by omega)
 unfold laws_eqProgDefS.f
 rw [if_pos rfl];exact key l.length 0 d rfl (by omega) hd
theorem eqR_f (l:List S63) (hn:l.length≤1048576) (hx:∀ x,x∈l→x.f1.f0.length≤1048576∧x.f2.f0.length≤1048576) (d:Nat) (hd:l.length+1048577<d):laws_eqProgRelS.f d l l=some true:=by
 have key:∀ (n k d:Nat),l.length - k=n→k≤l.length→n+1048577<d→laws_eqProgRelS.l0 d l l (k:Int)=some true:=by
  intro n
  induction n with
  | zero=>
   intro k d h1 h2 h3;obtain ⟨d,rfl⟩:∃ m,d=m+1:=⟨d - 1,by omega⟩
   unfold laws_eqProgRelS.l0
   rw [if_neg (by omega)]
  | succ n ih=>
   intro k d h1 h2 h3;obtain ⟨d,rfl⟩:∃ m,d=m+1:=⟨d - 1,by omega⟩;have hlt:k<l.length:=by omega
   obtain ⟨g1,g2⟩:=hx _ (List.getElem_mem hlt)
   unfold laws_eqProgRelS.l0 laws_eqProgRel.f
   rw [if_pos (by omega),if_pos (by omega),if_pos (by omega),if_pos rfl,rd63 hlt,eqT_f _ g1 d (by omega),Option.bind_some,if_pos rfl,eqT_f _ g2 d (by omega),Option.bind_some,if_pos rfl,Option.bind_some,if_pos rfl,w64_succ hlt (by omega)];exact ih (k+1) d (by omega) (by omega) (by omega)
 unfold laws_eqProgRelS.f
 rw [if_pos rfl];exact key l.length 0 d rfl (by omega) hd
theorem eqProg_f (l0:List S65) (l1:List ByteArray) (l2:List S63) (h0:l0.length≤1048576) (h1:l1.length≤1048576) (h2:l2.length≤1048576) (hd0:∀ x,x∈l0→x.f1.length≤1048576∧x.f2.f0.length≤1048576) (hd2:∀ x,x∈l2→x.f1.f0.length≤1048576∧x.f2.f0.length≤1048576) (d:Nat) (hd:2097153<d):laws_eqProg.f d l0 l1 l2 l0 l1 l2=some true:=by
 unfold laws_eqProg.f
 rw [eqD_f l0 h0 hd0 d (by omega),eqS_f l1 h1 d (by omega),eqR_f l2 h2 hd2 d (by omega)];rfl
end Go.Proofs.YtbahacapnaohcaaGreatDoor.PB
