import Derived.Test.YtbahacapnaohcaaGreatDoorA20
import Derived.Test.YtbahacapnaohcaaGreatDoorPBx20
import Derived.Test.YtbahacapnaohcaaGreatDoorA2
import Derived.Test.YtbahacapnaohcaaGreatDoorA16
set_option linter.unusedVariables false
set_option linter.unusedSimpArgs false
namespace Go.Proofs.YtbahacapnaohcaaGreatDoor.PB
open Go.RowKit Go.Proofs.YtbahacapnaohcaaGreatDoorW.PrintWords Go.Proofs.YtbahacapnaohcaaGreatDoorW.PrintLast Go.Proofs.YtbahacapnaohcaaGreatDoorW.PrintMore
theorem empty_iff (t:ByteArray):t.toList=([]:List UInt8)↔t=⟨#[]⟩:=by
 rw [ByteArray.toList_eq];constructor
 ·intro h;have:t.data=#[]:=Array.toList_inj.1 h
  cases t;exact congrArg _ this
 ·intro h;rw [h]
theorem args_f (x y:Int) (t:ByteArray) (hn:t.size≤4611686018427387904) (d:Nat) (hd:t.size+7<d):spec_l12Args.f d x y t=some (partsK x y t):=by
 obtain ⟨e,rfl⟩:∃ m,d=m+2:=⟨d - 2,by omega⟩;have n0:=numOk_f t hn (e+2) (by omega);have m0:=nameOk_f t (by omega) (e+2) (by omega);have m1:=nameOk_f t (by omega) e (by omega)
 unfold spec_l12Args.f partsK
 by_cases h1:x=1
 ·rw [if_pos h1,if_pos h1]
  by_cases hy:y=0
  ·rw [if_pos hy,n0];cases numB t <;> simp [hy]
  ·rw [if_neg hy];simp [hy]
 rw [if_neg h1,if_neg h1]
 by_cases h2:x=2
 ·rw [if_pos h2,if_pos h2]
  by_cases hy:y=0
  ·rw [if_pos hy,m0];cases nameB t <;> simp [hy]
  ·rw [if_neg hy];simp [hy]
 rw [if_neg h2,if_neg h2];have k0:∀ b:Bool,b=decide (x=3∨x=9∨x=10)→spec_l12Args.j0 (e+2) x b x y t=some (if x=3∨x=9∨x=10 then (if y=0∧t=⟨#[]⟩ then 1 else -1) else if x=4∨x=5∨x=6∨x=7∨x=11∨x=12 then (if y=0∧t=⟨#[]⟩ then 2 else -1) else if x=8 then (if (0≤y∧y≤8)∧t=⟨#[]⟩ then 1 else -1) else if x=13 then (if (1≤y∧y≤6)∧nameB t=true then y else -1) else -1):=by
  intro b hb;simp only [spec_l12Args.j0]
  by_cases h3:x=3∨x=9∨x=10
  ·rw [decide_eq_true h3] at hb;subst hb;rw [if_pos rfl,if_pos h3];simp only [empty_iff]
   by_cases hy:y=0 <;> by_cases ht:t=⟨#[]⟩ <;> simp [hy,ht]
  ·rw [decide_eq_false h3] at hb;subst hb;rw [if_neg (by simp),if_neg h3];have k1:∀ b:Bool,b=decide (x=4∨x=5∨x=6∨x=7∨x=11∨x=12)→spec_l12Args.j1 (e+1) x b x y t=some (if x=4∨x=5∨x=6∨x=7∨x=11∨x=12 then (if y=0∧t=⟨#[]⟩ then 2 else -1) else if x=8 then (if (0≤y∧y≤8)∧t=⟨#[]⟩ then 1 else -1) else if x=13 then (if (1≤y∧y≤6)∧nameB t=true then y else -1) else -1):=by
    intro b hb;simp only [spec_l12Args.j1]
    by_cases h4:x=4∨x=5∨x=6∨x=7∨x=11∨x=12
    ·rw [decide_eq_true h4] at hb;subst hb;rw [if_pos rfl,if_pos h4];simp only [empty_iff]
     by_cases hy:y=0 <;> by_cases ht:t=⟨#[]⟩ <;> simp [hy,ht]
    ·rw [decide_eq_false h4] at hb;subst hb;rw [if_neg (by simp),if_neg h4]
     by_cases h8:x=8
     ·rw [if_pos h8,if_pos h8];simp only [empty_iff]
      by_cases hy:y≥0
      ·rw [if_pos hy]
       by_cases hz:y≤8
       ·rw [if_pos hz];by_cases ht:t=⟨#[]⟩ <;> simp [hy,hz,ht]
       ·rw [if_neg hz];simp [hz]
      ·rw [if_neg hy];simp [show ¬ 0≤y from hy]
     ·rw [if_neg h8,if_neg h8]
      by_cases h13:x=13
      ·rw [if_pos h13,if_pos h13]
       by_cases hy:y≥1
       ·rw [if_pos hy]
        by_cases hz:y≤6
        ·rw [if_pos hz,m1];cases nameB t <;> simp [hy,hz,show 1≤y from hy]
        ·rw [if_neg hz];simp [hz]
       ·rw [if_neg hy];simp [show ¬ 1≤y from hy]
      ·rw [if_neg h13,if_neg h13]
   by_cases h4:x=4
   ·rw [if_pos h4];exact k1 _ (by rw [h4];rfl)
   rw [if_neg h4]
   by_cases h5:x=5
   ·rw [if_pos h5];exact k1 _ (by rw [h5];rfl)
   rw [if_neg h5]
   by_cases h6:x=6
   ·rw [if_pos h6];exact k1 _ (by rw [h6];rfl)
   rw [if_neg h6]
   by_cases h7:x=7
   ·rw [if_pos h7];exact k1 _ (by rw [h7];rfl)
   rw [if_neg h7]
   by_cases h11:x=11
   ·rw [if_pos h11];exact k1 _ (by rw [h11];rfl)
   rw [if_neg h11];exact k1 _ (by rw [Bool.eq_iff_iff];simp [h4,h5,h6,h7,h11])
 by_cases h3:x=3
 ·rw [if_pos h3];exact k0 _ (by rw [h3];rfl)
 rw [if_neg h3]
 by_cases h9:x=9
 ·rw [if_pos h9];exact k0 _ (by rw [h9];rfl)
 rw [if_neg h9];exact k0 _ (by rw [Bool.eq_iff_iff];simp [h3,h9])
theorem partsK_range (x y:Int) (t:ByteArray) : -1≤partsK x y t∧partsK x y t≤6:=by
 unfold partsK
 repeat' split
 all_goals omega
theorem rd102 {l:List S102} {k:Nat} (h:k<l.length):rd_T102 l (k:Int)=l[k]:=by
 unfold rd_T102;rw [Int.toNat_natCast,List.getD_eq_getElem?_getD,List.getElem?_eq_getElem h];rfl
theorem rd65 {l:List S65} {k:Nat} (h:k<l.length):rd_T65 l (k:Int)=l[k]:=by
 unfold rd_T65;rw [Int.toNat_natCast,List.getD_eq_getElem?_getD,List.getElem?_eq_getElem h];rfl
theorem rd63 {l:List S63} {k:Nat} (h:k<l.length):rd_T63 l (k:Int)=l[k]:=by
 unfold rd_T63;rw [Int.toNat_natCast,List.getD_eq_getElem?_getD,List.getElem?_eq_getElem h];rfl
theorem rdS {l:List ByteArray} {k:Nat} (h:k<l.length):rdOf ByteArray.empty l (k:Int)=l[k]:=by
 unfold rdOf;rw [Int.toNat_natCast,List.getD_eq_getElem?_getD,List.getElem?_eq_getElem h];rfl
def CapN (M:Nat) (l:List S102):Prop:=∀ x,x∈l→x.f2.size≤M
def CapS (M:Nat) (l:List ByteArray):Prop:=∀ x,x∈l→x.size≤M
theorem termOk_l0 (M:Nat) (hM:M≤4611686018427387904) (l:List S102) (hl:l.length≤100) (hc:CapN M l):∀ (n k:Nat) (z:Int) (d:Nat),l.length - k=n→k≤l.length→0≤z→z≤k→M+8+n<d→spec_TermOk.l0 d z (k:Int) l=some (match depthP (l.drop k) z with|some d=>decide (d=1)|none=>false)
 | n,k,z,0,_,_,_,_,h=>by omega
 | n,k,z,d+1,hn,hk,hz0,hz1,hd=>by
  unfold spec_TermOk.l0
  by_cases hlt:k<l.length
  ·rw [if_pos (by omega),if_pos (by omega),rd102 hlt,List.drop_eq_getElem_cons hlt];have hx:=hc l[k] (List.getElem_mem _);rw [args_f _ _ _ (by omega) d (by omega),Option.bind_some]
   unfold depthP
   show _=some (match if partsP l[k]<0∨z<partsP l[k] then none else depthP (l.drop (k+1)) (z+(1 - partsP l[k])) with|some d=>decide (d=1)|none=>false)
   have hr : -1≤partsP l[k]∧partsP l[k]≤6:=partsK_range _ _ _
   show (if partsP l[k]<0 then _ else if partsP l[k] > z then _ else _)=_
   by_cases h1:partsP l[k]<0
   ·rw [if_pos h1,if_pos (.inl h1)]
   rw [if_neg h1]
   by_cases h2:partsP l[k] > z
   ·rw [if_pos h2,if_pos (.inr h2)]
   rw [if_neg h2,if_neg (by omega)];have e1:wrap64 (wrap64 (z - partsP l[k])+1)=z+(1 - partsP l[k]):=by unfold wrap64;omega
   show spec_TermOk.l0 d (wrap64 (wrap64 (z - partsP l[k])+1)) (wrap64 ((k:Int)+1)) l=_
   rw [e1,w64_succ hlt (by omega)];exact termOk_l0 M hM l hl hc (l.length - (k+1)) (k+1) _ d rfl (by omega) (by omega) (by omega) (by omega)
  ·rw [if_neg (by omega),List.drop_of_length_le (by omega)]
   unfold depthP
   rfl
theorem termOk_f (M:Nat) (hM:M≤4611686018427387904) (l:List S102) (hc:CapN M l) (d:Nat) (hd:M+108<d):spec_TermOk.f d l=some (termOkB l):=by
 unfold spec_TermOk.f termOkB
 by_cases h:l.length > 100
 ·rw [if_pos (by omega)]
  cases depthP l 0 with
  | none=>rfl
  | some d=>simp [show ¬ l.length≤100 by omega]
 ·rw [if_neg (by omega)];have:=termOk_l0 M hM l (by omega) hc l.length 0 0 d rfl (by omega) (by omega) (by omega) (by omega);rw [show ((0:Nat):Int)=0 from rfl,List.drop_zero] at this;rw [this]
  cases depthP l 0 with
  | none=>rfl
  | some d=>simp [show l.length≤100 by omega]
theorem names_l0 (M:Nat) (hM:M≤4611686018427387904) (l:List ByteArray) (hl:l.length≤M) (hc:CapS M l):∀ (n k d:Nat),l.length - k=n→k≤l.length→M+2+n<d→spec_l13Names.l0 d l (k:Int)=some (!((l.drop k).any fun s=>!nameB s))
 | n,k,0,_,_,h=>by omega
 | n,k,d+1,hn,hk,hd=>by
  unfold spec_l13Names.l0
  by_cases hlt:k<l.length
  ·have hx:=hc l[k] (List.getElem_mem _);rw [if_pos (by omega),if_pos (by omega),rdS hlt,nameOk_f _ (by omega) d (by omega),Option.bind_some,List.drop_eq_getElem_cons hlt,List.any_cons,w64_succ hlt (by omega)]
   cases hb:nameB l[k] with
   | true=>rw [if_pos rfl,names_l0 M hM l hl hc (l.length - (k+1)) (k+1) d rfl (by omega) (by omega)];simp
   | false=>simp
  ·rw [if_neg (by omega),List.drop_of_length_le (by omega)];rfl
theorem names_f (M:Nat) (hM:M≤4611686018427387904) (l:List ByteArray) (hl:l.length≤M) (hc:CapS M l) (d:Nat) (hd:2 * M+2<d):spec_l13Names.f d l=some (!(l.any fun s=>!nameB s)):=by
 have:=names_l0 M hM l hl hc l.length 0 d rfl (by omega) (by omega);rw [show ((0:Nat):Int)=0 from rfl,List.drop_zero] at this;exact this
structure CapP (M:Nat) (l0:List S65) (l1:List ByteArray) (l2:List S63):Prop where
 hM:M≤1073741824
 n0:l0.length≤M
 n1:l1.length≤M
 n2:l2.length≤M
 names:∀ x,x∈l0→x.f0.size≤M
 parn:∀ x,x∈l0→x.f1.length≤M
 pars:∀ x,x∈l0→CapS M x.f1
 bodn:∀ x,x∈l0→x.f2.f0.length≤M
 body:∀ x,x∈l0→CapN M x.f2.f0
 vars:CapS M l1
 lefn:∀ x,x∈l2→x.f1.f0.length≤M
 left:∀ x,x∈l2→CapN M x.f1.f0
 rign:∀ x,x∈l2→x.f2.f0.length≤M
 right:∀ x,x∈l2→CapN M x.f2.f0
theorem kind_f (x:Int):spec_l13Kind.f x=some (decide (1≤x)&&decide (x≤3)):=by
 unfold spec_l13Kind.f
 by_cases h1:x=1
 ·subst h1;rfl
 rw [if_neg h1]
 by_cases h2:x=2
 ·subst h2;rfl
 rw [if_neg h2]
 congr 1
 rw [Bool.eq_iff_iff];simp;omega
theorem formed_l1 {M:Nat} {l0:List S65} {l1:List ByteArray} {l2:List S63} (H:CapP M l0 l1 l2):∀ (n k d:Nat),l2.length - k=n→k≤l2.length→2 * M+200+n<d→spec_l13Formed.l1 d (k:Int) l0 l1 l2=some ((l2.drop k).all relFormed&&!(l1.any fun s=>!nameB s))
 | n,k,0,_,_,h=>by omega
 | n,k,d+1,hn,hk,hd=>by
  have hM:=H.hM;have hN:=H.n2;simp only [spec_l13Formed.l1]
  by_cases hlt:k<l2.length
  ·have hx:=List.getElem_mem hlt;rw [if_pos (by omega),if_pos (by omega),rd63 hlt,kind_f,Option.bind_some,termOk_f M (by omega) _ (H.left _ hx) d (by omega),termOk_f M (by omega) _ (H.right _ hx) d (by omega),List.drop_eq_getElem_cons hlt,List.all_cons,w64_succ hlt (by omega),
    formed_l1 H (l2.length - (k+1)) (k+1) d rfl (by omega) (by omega)]
   unfold relFormed
   simp only [Option.bind_some]
   cases (decide (1≤l2[k].f0)&&decide (l2[k].f0≤3)) <;> cases termOkB l2[k].f1.f0 <;> cases termOkB l2[k].f2.f0 <;> simp
  ·rw [if_neg (by omega),List.drop_of_length_le (by omega),names_f M (by omega) l1 H.n1 H.vars d (by omega)];rfl
theorem formed_l0 {M:Nat} {l0:List S65} {l1:List ByteArray} {l2:List S63} (H:CapP M l0 l1 l2):∀ (n k d:Nat),l0.length - k=n→k≤l0.length→3 * M+202+n<d→spec_l13Formed.l0 d (k:Int) l0 l1 l2=some ((l0.drop k).all defFormed&&(l2.all relFormed&&!(l1.any fun s=>!nameB s)))
 | n,k,0,_,_,h=>by omega
 | n,k,d+1,hn,hk,hd=>by
  have hM:=H.hM;have hN:=H.n0;have hN2:=H.n2;simp only [spec_l13Formed.l0]
  by_cases hlt:k<l0.length
  ·have hx:=List.getElem_mem hlt;have hs:=H.names _ hx;rw [if_pos (by omega),if_pos (by omega),rd65 hlt,termOk_f M (by omega) _ (H.body _ hx) d (by omega),nameOk_f _ (by omega) d (by omega),names_f M (by omega) _ (H.parn _ hx) (H.pars _ hx) d (by omega),List.drop_eq_getElem_cons hlt,List.all_cons,w64_succ hlt (by omega),
    formed_l0 H (l0.length - (k+1)) (k+1) d rfl (by omega) (by omega)]
   unfold defFormed
   simp only [Option.bind_some]
   cases termOkB l0[k].f2.f0 <;> cases nameB l0[k].f0 <;> cases (l0[k].f1.any fun s=>!nameB s) <;> simp
  ·have:=formed_l1 H l2.length 0 d rfl (by omega) (by omega);rw [show ((0:Nat):Int)=0 from rfl,List.drop_zero] at this;rw [if_neg (by omega),List.drop_of_length_le (by omega),this];rfl
theorem formed_f {M:Nat} {l0:List S65} {l1:List ByteArray} {l2:List S63} (H:CapP M l0 l1 l2) (d:Nat) (hd:4 * M+202<d):spec_l13Formed.f d l0 l1 l2=some (formedB l0 l1 l2):=by
 have hN:=H.n0;have:=formed_l0 H l0.length 0 d rfl (by omega) (by omega);rw [show ((0:Nat):Int)=0 from rfl,List.drop_zero] at this;exact this
theorem find_l0 (x:ByteArray) (l:List ByteArray) (hl:l.length≤4611686018427387904):∀ (n k d:Nat),l.length - k=n→k≤l.length→n<d→spec_l12Find.l0 d l x (k:Int)=some (idxOf x (l.drop k) k)
 | n,k,0,_,_,h=>by omega
 | n,k,d+1,hn,hk,hd=>by
  unfold spec_l12Find.l0
  by_cases hlt:k<l.length
  ·rw [if_pos (by omega),if_pos (by omega),rdS hlt,List.drop_eq_getElem_cons hlt]
   unfold idxOf
   by_cases h:x.toList=l[k].toList
   ·rw [if_pos h,if_pos h.symm]
   ·rw [if_neg h,if_neg (fun e=>h e.symm),w64_succ hlt (by omega)];exact find_l0 x l hl (l.length - (k+1)) (k+1) d rfl (by omega) (by omega)
  ·rw [if_neg (by omega),List.drop_of_length_le (by omega)];rfl
theorem find_f (x:ByteArray) (l:List ByteArray) (hl:l.length≤4611686018427387904) (d:Nat) (hd:l.length<d):spec_l12Find.f d l x=some (idxOf x l 0):=by
 have:=find_l0 x l hl l.length 0 d rfl (by omega) hd;rw [show ((0:Nat):Int)=0 from rfl,List.drop_zero] at this;exact this
theorem distinct_l0 (M:Nat) (hM:M≤4611686018427387904) (l:List ByteArray) (hl:l.length≤M) (hc:CapS M l) (hok:∀ x,x∈l→nameB x=true):∀ (n k d:Nat),l.length - k=n→k≤l.length→M+2+n<d→spec_l13Distinct.l0 d l (k:Int)=some (!twiceFrom l (l.drop k) k)
 | n,k,0,_,_,h=>by omega
 | n,k,d+1,hn,hk,hd=>by
  unfold spec_l13Distinct.l0
  by_cases hlt:k<l.length
  ·have hx:=hc l[k] (List.getElem_mem _);rw [if_pos (by omega),if_pos (by omega),rdS hlt,nameOk_f _ (by omega) d (by omega),Option.bind_some,hok _ (List.getElem_mem _),if_pos rfl,if_pos (by omega),Int.toNat_natCast,find_f _ _ (by rw [List.length_take];omega) d (by rw [List.length_take];omega),Option.bind_some,List.drop_eq_getElem_cons hlt,w64_succ hlt (by omega)]
   unfold twiceFrom
   rw [distinct_l0 M hM l hl hc hok (l.length - (k+1)) (k+1) d rfl (by omega) (by omega)]
   by_cases h:idxOf l[k] (l.take k) 0≥0
   ·rw [if_pos h,decide_eq_true h];rfl
   ·rw [if_neg h,decide_eq_false h];rfl
  ·rw [if_neg (by omega),List.drop_of_length_le (by omega)];rfl
theorem distinct_f (M:Nat) (hM:M≤4611686018427387904) (l:List ByteArray) (hl:l.length≤M) (hc:CapS M l) (hok:∀ x,x∈l→nameB x=true) (d:Nat) (hd:2 * M+2<d):spec_l13Distinct.f d l=some (!twiceB l):=by
 have:=distinct_l0 M hM l hl hc hok l.length 0 d rfl (by omega) (by omega);rw [show ((0:Nat):Int)=0 from rfl,List.drop_zero] at this;exact this
def shapeP (l0:List S65) (l1:List ByteArray) (l2:List S63):Int:=if manyB l0 l1 l2=true then 5 else if againB l0 l1=true then 6 else 0
theorem shape_l2 {M:Nat} {l0:List S65} {l1:List ByteArray} {l2:List S63} (H:CapP M l0 l1 l2) (hok:∀ x,x∈l0→∀ s,s∈x.f1→nameB s=true):∀ (n k d:Nat) (b:Bool),l0.length - k=n→k≤l0.length→2 * M+10+n<d→spec_l13Shape.l2 d b (k:Int) l0 l1 l2=some (if (b||(l0.drop k).any twiceParams)=true then 6 else 0)
 | n,k,0,_,_,_,h=>by omega
 | n,k,d+1,b,hn,hk,hd=>by
  have hM:=H.hM;have hN:=H.n0;simp only [spec_l13Shape.l2]
  by_cases hlt:k<l0.length
  ·have hx:=List.getElem_mem hlt;rw [if_pos (by omega),rd65 hlt,List.drop_eq_getElem_cons hlt,List.any_cons,w64_succ hlt (by omega),distinct_f M (by omega) _ (H.parn _ hx) (H.pars _ hx) (hok _ hx) d (by omega),Option.bind_some,shape_l2 H hok (l0.length - (k+1)) (k+1) d _ rfl (by omega) (by omega),shape_l2 H hok (l0.length - (k+1)) (k+1) d _ rfl (by omega) (by omega),if_pos (show 0≤(k:Int) by omega)]
   show (if b=true then some (if (true||(l0.drop (k+1)).any twiceParams)=true then 6 else 0) else some (if ((!!twiceB l0[k].f1)||(l0.drop (k+1)).any twiceParams)=true then 6 else 0))=some (if (b||(twiceB l0[k].f1||(l0.drop (k+1)).any twiceParams))=true then 6 else 0)
   cases b <;> simp
  ·rw [if_neg (by omega),List.drop_of_length_le (by omega)]
   cases b <;> simp
theorem shape_l1 {M:Nat} {l0:List S65} {l1:List ByteArray} {l2:List S63} (H:CapP M l0 l1 l2) (hf:formedB l0 l1 l2=true):∀ (n k d:Nat) (acc:List ByteArray),l1.length - k=n→k≤l1.length→acc=l0.map (·.f0)++l1.take k→6 * M+20+n<d→spec_l13Shape.l1 d acc (k:Int) l0 l1 l2=some (if againB l0 l1=true then 6 else 0)
 | n,k,0,_,_,_,_,h=>by omega
 | n,k,d+1,acc,hn,hk,ha,hd=>by
  have hM:=H.hM;have hN:=H.n0;have hN1:=H.n1;have hal:acc.length=l0.length+k:=by rw [ha,List.length_append,List.length_map,List.length_take];omega
  simp only [spec_l13Shape.l1]
  by_cases hlt:k<l1.length
  ·rw [if_pos (by omega),if_pos (by omega),if_pos (by omega),rdS hlt,w64_succ hlt (by omega)];exact shape_l1 H hf (l1.length - (k+1)) (k+1) d _ rfl (by omega) (by rw [ha,List.append_assoc,List.take_succ_eq_append_getElem hlt]) (by omega)
  ·rw [if_neg (by omega)];have hk1:l1.take k=l1:=List.take_of_length_le (by omega);rw [hk1] at ha
   unfold formedB at hf
   simp only [Bool.and_eq_true,List.all_eq_true,Bool.not_eq_true',List.any_eq_false] at hf;obtain ⟨f0,f2,f1⟩:=hf;have hd0:∀ x,x∈l0→nameB x.f0=true∧∀ s,s∈x.f1→nameB s=true:=fun x hx=>by
    have:=f0 x hx
    unfold defFormed at this
    simp only [Bool.and_eq_true,Bool.not_eq_true',List.any_eq_false] at this;exact ⟨this.2.1,fun s hs=>by have:=this.2.2 s hs;simpa using this⟩
   have hcap:CapS (2 * M) acc:=fun x hx=>by
    rw [ha] at hx
    rcases List.mem_append.1 hx with h|h
    ·obtain ⟨y,hy,rfl⟩:=List.mem_map.1 h;have:=H.names y hy;omega
    ·have:=H.vars x h;omega
   have hok:∀ x,x∈acc→nameB x=true:=fun x hx=>by
    rw [ha] at hx
    rcases List.mem_append.1 hx with h|h
    ·obtain ⟨y,hy,rfl⟩:=List.mem_map.1 h;exact (hd0 y hy).1
    ·have:=f1 x h;simpa using this
   rw [distinct_f (2 * M) (by omega) acc (by omega) hcap hok d (by omega),Option.bind_some];have:=shape_l2 H (fun x hx=>(hd0 x hx).2) l0.length 0 d (!!twiceB acc) rfl (by omega) (by omega);rw [show ((0:Nat):Int)=0 from rfl,List.drop_zero] at this;rw [this,ha]
   unfold againB
   rw [Bool.not_not]
theorem shape_l0 {M:Nat} {l0:List S65} {l1:List ByteArray} {l2:List S63} (H:CapP M l0 l1 l2) (hf:formedB l0 l1 l2=true):∀ (n k d:Nat) (acc:List ByteArray),l0.length - k=n→k≤l0.length→acc=(l0.take k).map (·.f0)→8 * M+30+n<d→spec_l13Shape.l0 d acc (k:Int) l0 l1 l2=some (if (l0.drop k).any longParams=true then 5 else if againB l0 l1=true then 6 else 0)
 | n,k,0,_,_,_,_,h=>by omega
 | n,k,d+1,acc,hn,hk,ha,hd=>by
  have hM:=H.hM;have hN:=H.n0;have hN1:=H.n1;have hal:acc.length=k:=by rw [ha,List.length_map,List.length_take];omega
  simp only [spec_l13Shape.l0]
  by_cases hlt:k<l0.length
  ·rw [if_pos (by omega),if_pos (by omega),rd65 hlt,List.drop_eq_getElem_cons hlt,List.any_cons,w64_succ hlt (by omega)]
   by_cases h6:l0[k].f1.length > 6
   ·rw [if_pos (by omega)];have:longParams l0[k]=true:=decide_eq_true h6;rw [this];simp
   ·rw [if_neg (by omega),if_pos (by omega)];have:longParams l0[k]=false:=decide_eq_false h6;rw [this,Bool.false_or];exact shape_l0 H hf (l0.length - (k+1)) (k+1) d _ rfl (by omega) (by rw [ha,List.take_succ_eq_append_getElem hlt,List.map_append];rfl) (by omega)
  ·rw [if_neg (by omega),List.drop_of_length_le (by omega)];have:=shape_l1 H hf l1.length 0 d acc rfl (by omega) (by rw [ha,List.take_of_length_le (by omega)];simp) (by omega);rw [show ((0:Nat):Int)=0 from rfl] at this;rw [this];simp
theorem shape_f {M:Nat} {l0:List S65} {l1:List ByteArray} {l2:List S63} (H:CapP M l0 l1 l2) (d:Nat) (hd:9 * M+250<d):spec_l13Shape.f d l0 l1 l2=some (if formedB l0 l1 l2=true then shapeP l0 l1 l2 else 4):=by
 have hN:=H.n0
 unfold spec_l13Shape.f
 rw [formed_f H d (by omega),Option.bind_some]
 cases hf:formedB l0 l1 l2 with
 | false=>simp
 | true=>
  simp only [if_true];obtain ⟨d,rfl⟩:∃ m,d=m+1:=⟨d - 1,by omega⟩
  unfold shapeP manyB
  have h0:=shape_l0 H hf l0.length 0 d [] rfl (by omega) rfl (by omega);rw [show ((0:Nat):Int)=0 from rfl,List.drop_zero] at h0
  by_cases a:l0.length > 12
  ·rw [if_pos (by omega)];simp only [spec_l13Shape.j0];simp [a]
  rw [if_neg (by omega)]
  by_cases b:l1.length > 6
  ·rw [if_pos (by omega)];simp only [spec_l13Shape.j0];simp [b]
  rw [if_neg (by omega)]
  by_cases c:l2.length > 12
  ·rw [decide_eq_true (show (l2.length:Int) > 12 by omega)];simp only [spec_l13Shape.j0];simp [c]
  rw [decide_eq_false (show ¬ (l2.length:Int) > 12 by omega)];simp only [spec_l13Shape.j0,Bool.false_eq_true,if_false];rw [h0]
  simp [a,b,c,show ¬ 12<l0.length by omega,show ¬ 6<l1.length by omega,show ¬ 12<l2.length by omega]
theorem def_l0 (s:ByteArray) (l0:List S65) (l1:List ByteArray) (l2:List S63) (hl:l0.length≤4611686018427387904):∀ (n k d:Nat),l0.length - k=n→k≤l0.length→n<d→spec_l13Def.l0 d s (k:Int) l0 l1 l2=some (idxP (isNamed s) (l0.drop k) k)
 | n,k,0,_,_,h=>by omega
 | n,k,d+1,hn,hk,hd=>by
  unfold spec_l13Def.l0
  by_cases hlt:k<l0.length
  ·rw [if_pos (by omega),if_pos (by omega),rd65 hlt,List.drop_eq_getElem_cons hlt]
   unfold idxP
   have e:(isNamed s l0[k]=true)↔l0[k].f0.toList=s.toList:=by unfold isNamed;rw [beq_iff_eq]
   by_cases h:l0[k].f0.toList=s.toList
   ·rw [if_pos h,if_pos (e.2 h)]
   ·rw [if_neg h,if_neg (fun q=>h (e.1 q)),w64_succ hlt (by omega)];exact def_l0 s l0 l1 l2 hl (l0.length - (k+1)) (k+1) d rfl (by omega) (by omega)
  ·rw [if_neg (by omega),List.drop_of_length_le (by omega)];rfl
theorem def_f (s:ByteArray) (l0:List S65) (l1:List ByteArray) (l2:List S63) (hl:l0.length≤4611686018427387904) (d:Nat) (hd:l0.length<d):spec_l13Def.f d l0 l1 l2 s=some (defIdx l0 s):=by
 have:=def_l0 s l0 l1 l2 hl l0.length 0 d rfl (by omega) hd;rw [show ((0:Nat):Int)=0 from rfl,List.drop_zero] at this;exact this
theorem idxP_rng {α:Type} (p:α→Bool):∀ (l:List α) (k:Nat),idxP p l k = -1∨((k:Int)≤idxP p l k∧idxP p l k<(k:Int)+l.length)
 | [],k=>by simp [idxP]
 | x :: l,k=>by
  have ih:=idxP_rng p l (k+1)
  unfold idxP
  by_cases h:p x=true
  ·rw [if_pos h];simp only [List.length_cons];omega
  ·rw [if_neg h];simp only [List.length_cons];omega
theorem defIdx_rng (l0:List S65) (s:ByteArray):defIdx l0 s = -1∨(0≤defIdx l0 s∧defIdx l0 s<l0.length):=by
 have:=idxP_rng (isNamed s) l0 0;unfold defIdx;omega
theorem known_l0 (l0:List S65) (l1:List ByteArray) (l2:List S63) (own:List ByteArray) (l:List S102) (h0:l0.length≤4611686018427387904) (ho:own.length≤4611686018427387904) (hl:l.length≤4611686018427387904):∀ (n k d:Nat),l.length - k=n→k≤l.length→l0.length+own.length+3 * n+3<d→spec_l13Known.l0 d own (k:Int) l0 l1 l2 l=some (fitsP l0 own (l.drop k))
 | n,k,0,_,_,h=>by omega
 | n,k,1,_,_,h=>by omega
 | n,k,2,_,_,h=>by omega
 | n,k,d+3,hn,hk,hd=>by
  rw [spec_l13Known.l0.eq_def];simp only []
  by_cases hlt:k<l.length
  ·rw [if_pos (by omega),if_pos (by omega),rd102 hlt,List.drop_eq_getElem_cons hlt]
   unfold fitsP
   have ih2:=known_l0 l0 l1 l2 own l h0 ho hl (l.length - (k+1)) (k+1) (d+1) rfl (by omega) (by omega);have ih1:=known_l0 l0 l1 l2 own l h0 ho hl (l.length - (k+1)) (k+1) d rfl (by omega) (by omega);generalize l[k]=x at *;generalize fitsP l0 own (l.drop (k+1))=r at *;have key:∀ b:Bool,b=decide (x.f0≠2∧x.f0≠13)→spec_l13Known.j1 (d+2) own (k:Int) b l0 l1 l2 l x.f0 x.f1 x.f2=some (if nodeFit l0 own x≠0 then nodeFit l0 own x else r):=by
    intro b hb;simp only [spec_l13Known.j1]
    unfold nodeFit
    by_cases hk2:x.f0≠2∧x.f0≠13
    ·rw [decide_eq_true hk2] at hb;subst hb;rw [if_pos rfl,if_pos hk2,w64_succ hlt (by omega),ih2];simp
    ·rw [decide_eq_false hk2] at hb;subst hb;rw [if_neg (by simp),if_neg hk2,def_f _ _ _ _ h0 (d+1) (by omega),find_f _ _ ho (d+1) (by omega),Option.bind_some,Option.bind_some];have hm:decide (idxOf x.f2 own 0≥0)=memS own x.f2:=rfl;rw [hm];have hr:=defIdx_rng l0 x.f2;generalize defIdx l0 x.f2=t at *;simp only [spec_l13Known.j2];rw [w64_succ hlt (by omega),ih1]
     cases memS own x.f2 with
     | true=>
      simp only [if_true,Bool.not_true,Bool.false_eq_true,if_false,ite_self]
      by_cases h13:x.f0=13 <;> simp [h13]
     | false=>
      simp only [Bool.false_eq_true,if_false,Bool.not_false,if_true]
      by_cases ht:t<0
      ·rw [if_pos ht,if_pos ht];simp
      ·rw [if_neg ht,if_neg ht,if_pos (by omega),if_pos (by omega)]
       by_cases hp:((rd_T65 l0 t).f1.length:Int)=x.f1
       ·rw [if_pos hp];simp [hp]
       ·rw [if_neg hp];simp [hp]
   by_cases h2:x.f0=2
   ·rw [if_pos h2];exact key _ (by simp [h2])
   ·rw [if_neg h2];exact key _ (by rw [Bool.eq_iff_iff];simp [h2])
  ·rw [if_neg (by omega),List.drop_of_length_le (by omega)];rfl
theorem known_f (l0:List S65) (l1:List ByteArray) (l2:List S63) (own:List ByteArray) (l:List S102) (h0:l0.length≤4611686018427387904) (ho:own.length≤4611686018427387904) (hl:l.length≤4611686018427387904) (d:Nat) (hd:l0.length+own.length+3 * l.length+3<d):spec_l13Known.f d l0 l1 l2 l own=some (fitsP l0 own l):=by
 have:=known_l0 l0 l1 l2 own l h0 ho hl l.length 0 d rfl (by omega) hd;rw [show ((0:Nat):Int)=0 from rfl,List.drop_zero] at this;exact this
theorem defCode_l0 (l0:List S65) (l1:List ByteArray) (l2:List S63) (nm:ByteArray) (ps:List ByteArray) (ns:List S102) (h0:l0.length≤4611686018427387904) (hp:ps.length≤4611686018427387904) (hl:ns.length≤4611686018427387904):∀ (n k d:Nat),ps.length - k=n→k≤ps.length→l0.length+ps.length+3 * ns.length+4+n<d→spec_l13DefCode.l0 d (k:Int) l0 l1 l2 nm ps ns=some (if (ps.drop k).any (isDef l0)=true then 7 else fitsP l0 ps ns)
 | n,k,0,_,_,h=>by omega
 | n,k,d+1,hn,hk,hd=>by
  unfold spec_l13DefCode.l0
  by_cases hlt:k<ps.length
  ·rw [if_pos (by omega),if_pos (by omega),rdS hlt,def_f _ _ _ _ h0 d (by omega),Option.bind_some,List.drop_eq_getElem_cons hlt,List.any_cons,w64_succ hlt (by omega),defCode_l0 l0 l1 l2 nm ps ns h0 hp hl (ps.length - (k+1)) (k+1) d rfl (by omega) (by omega)]
   by_cases h:defIdx l0 ps[k]≥0
   ·rw [if_pos h,show isDef l0 ps[k]=true from decide_eq_true h];rfl
   ·rw [if_neg h,show isDef l0 ps[k]=false from decide_eq_false h];rfl
  ·rw [if_neg (by omega),List.drop_of_length_le (by omega),known_f l0 l1 l2 ps ns h0 hp hl d (by omega)];rfl
theorem defCode_f (l0:List S65) (l1:List ByteArray) (l2:List S63) (x:S65) (h0:l0.length≤4611686018427387904) (hp:x.f1.length≤4611686018427387904) (hl:x.f2.f0.length≤4611686018427387904) (d:Nat) (hd:l0.length+2 * x.f1.length+3 * x.f2.f0.length+4<d):spec_l13DefCode.f d l0 l1 l2 x.f0 x.f1 x.f2.f0=some (defCodeP l0 x):=by
 have:=defCode_l0 l0 l1 l2 x.f0 x.f1 x.f2.f0 h0 hp hl x.f1.length 0 d rfl (by omega) (by omega);rw [show ((0:Nat):Int)=0 from rfl,List.drop_zero] at this;exact this
theorem fits_app (l0:List S65) (own:List ByteArray):∀ (a b:List S102),fitsP l0 own (a++b)=if fitsP l0 own a=0 then fitsP l0 own b else fitsP l0 own a
 | [],b=>by simp [fitsP]
 | x :: a,b=>by
  have e:∀ r,fitsP l0 own (x :: r)=if nodeFit l0 own x≠0 then nodeFit l0 own x else fitsP l0 own r:=fun _=>rfl
  rw [List.cons_append,e,e,fits_app l0 own a b]
  by_cases h:nodeFit l0 own x≠0
  ·rw [if_pos h,if_pos h,if_neg h]
  ·rw [if_neg h,if_neg h]
theorem relCode_f (l0:List S65) (l1:List ByteArray) (l2:List S63) (x:S63) (h0:l0.length≤4611686018427387904) (h1:l1.length≤4611686018427387904) (ha:x.f1.f0.length≤4611686018427387904) (hb:x.f2.f0.length≤4611686018427387904) (d:Nat) (hd:l0.length+l1.length+3 * x.f1.f0.length+3 * x.f2.f0.length+3<d):spec_l13RelCode.f d l0 l1 l2 x.f0 x.f1.f0 x.f2.f0=some (relCodeP l0 l1 x):=by
 unfold spec_l13RelCode.f relCodeP
 rw [known_f l0 l1 l2 l1 _ h0 h1 ha d (by omega),known_f l0 l1 l2 l1 _ h0 h1 hb d (by omega),fits_app];simp only [Option.bind_some]
 by_cases h:fitsP l0 l1 x.f1.f0=0
 ·rw [if_pos h,if_pos h]
 ·rw [if_neg h,if_neg h]
end Go.Proofs.YtbahacapnaohcaaGreatDoor.PB
