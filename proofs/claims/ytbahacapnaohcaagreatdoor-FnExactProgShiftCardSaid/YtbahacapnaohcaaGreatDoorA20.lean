import Derived.Test.YtbahacapnaohcaaGreatDoorExtD
import Derived.Test.YtbahacapnaohcaaGreatDoorExtA
set_option linter.unusedVariables false
set_option linter.unusedSimpArgs false
namespace Go.Proofs.YtbahacapnaohcaaGreatDoor.PB
open Go.RowKit Go.Proofs.YtbahacapnaohcaaGreatDoorW.PrintWords Go.Proofs.YtbahacapnaohcaaGreatDoorW.PrintLast Go.Proofs.YtbahacapnaohcaaGreatDoorW.PrintMore
theorem w64_succ {k n:Nat} (h:k<n) (hn:n≤9223372036854775807):wrap64 ((k:Int)+1)=((k+1:Nat):Int):=by unfold wrap64;omega
def ltC (c:Int):Bool:=decide (97≤c)&&decide (c≤122)
def fgC (c:Int):Bool:=decide (48≤c)&&decide (c≤57)
theorem isLetter_f (c:Int):impl_isLetter.f c=some (ltC c):=by
 unfold impl_isLetter.f ltC;by_cases h:c≥97 <;> simp [h]
theorem isFigure_f (c:Int):impl_isFigure.f c=some (fgC c):=by
 unfold impl_isFigure.f fgC;by_cases h:c≥48 <;> simp [h]
theorem sLetter_f (c:Int):spec_l11Letter.f c=some (ltC c):=by
 unfold spec_l11Letter.f ltC;by_cases h:c≥97 <;> simp [h]
theorem sDigit_f (c:Int):spec_l11Digit.f c=some (fgC c):=by
 unfold spec_l11Digit.f fgC;by_cases h:c≥48 <;> simp [h]
def allLF (s:ByteArray) (i:Nat):Bool:=(List.range' i (s.size - i)).all (fun j=>ltC (bt s j)||fgC (bt s j))
theorem allLF_end (s:ByteArray) (i:Nat) (h:s.size≤i):allLF s i=true:=by
 unfold allLF;rw [show s.size - i=0 by omega];rfl
theorem allLF_succ (s:ByteArray) (i:Nat) (h:i<s.size):allLF s i=((ltC (bt s i)||fgC (bt s i))&&allLF s (i+1)):=by
 unfold allLF;rw [show s.size - i=(s.size - (i+1))+1 by omega,List.range'_succ];rfl
def headW (s:ByteArray):Bool:=decide (1≤s.size)&&decide (s.size≤8)&&ltC (bt s 0)
theorem wordOk_l0 (s:ByteArray) (hn:s.size≤9223372036854775807):∀ (d k:Nat),k≤s.size→s.size - k<d→impl_wordOk.l0 d s (s.size:Int) (k:Int)=some (allLF s k&&headW s)
 | 0,k,_,h=>by omega
 | d+1,k,hk,hd=>by
  unfold impl_wordOk.l0
  by_cases hlt:k<s.size
  ·rw [if_pos (by omega),if_pos (by omega),if_pos (by omega),isLetter_f,isFigure_f,w64_succ hlt hn,wordOk_l0 s hn d (k+1) (by omega) (by omega),allLF_succ s k hlt]
   cases ltC (bt s k) <;> cases fgC (bt s k) <;> simp
  ·rw [if_neg (by omega),allLF_end s k (by omega),isLetter_f]
   unfold impl_in.f headW
   by_cases h1:1≤s.size
   ·rw [if_pos (by omega)]
    by_cases h2:s.size≤8
    ·rw [Option.bind_some,if_pos (by simp;omega),if_pos (by omega)];simp [h1,h2]
    ·simp [h1,h2,show ¬ (s.size:Int)≤8 by omega]
   ·rw [if_neg (by omega)];simp [h1]
theorem wordB_eq (s:ByteArray) (hn:s.size≤9223372036854775807):wordB s=(allLF s 0&&headW s):=by
 have:=wordOk_l0 s hn (s.size+1) 0 (by omega) (by omega)
 unfold wordB impl_wordOk.f
 have h0:((0:Nat):Int)=0:=rfl;rw [h0] at this;rw [this];rfl
theorem plain_l0 (s:ByteArray) (hn:s.size≤9223372036854775807):∀ (d k:Nat),k≤s.size→s.size - k<d→spec_l11Plain.l0 d s (k:Int)=some (allLF s k)
 | 0,k,_,h=>by omega
 | d+1,k,hk,hd=>by
  unfold spec_l11Plain.l0
  by_cases hlt:k<s.size
  ·rw [if_pos (by omega),if_pos (by omega),sLetter_f,sDigit_f,w64_succ hlt hn,plain_l0 s hn d (k+1) (by omega) (by omega),allLF_succ s k hlt]
   cases ltC (bt s k) <;> cases fgC (bt s k) <;> simp
  ·rw [if_neg (by omega),allLF_end s k (by omega)]
theorem plain_j0 (s:ByteArray) (hn:s.size≤9223372036854775807) (h1:1≤s.size) (b:Bool) (d:Nat) (hd:s.size+1<d):spec_l11Plain.j0 d s b=some (!b&&allLF s 1):=by
 obtain ⟨d,rfl⟩:∃ m,d=m+1:=⟨d - 1,by omega⟩;simp only [spec_l11Plain.j0];have h0:=plain_l0 s hn d 1 h1 (by omega);rw [show ((1:Nat):Int)=1 from rfl] at h0;rw [h0]
 cases b <;> rfl
theorem plain_jt (s:ByteArray) (d:Nat) (hd:0<d):spec_l11Plain.j0 d s true=some false:=by
 obtain ⟨d,rfl⟩:∃ m,d=m+1:=⟨d - 1,by omega⟩;simp only [spec_l11Plain.j0];rfl
theorem plain_f (s:ByteArray) (hn:s.size≤9223372036854775807) (k:Nat) (hk:s.size+1<k):spec_l11Plain.f k s=some (wordB s):=by
 unfold spec_l11Plain.f
 rw [wordB_eq s hn]
 by_cases h1:s.size<1
 ·rw [if_pos (by omega),plain_jt s k (by omega)]
  unfold headW;simp [show ¬ 1≤s.size by omega]
 ·rw [if_neg (by omega)]
  by_cases h8:s.size > 8
  ·rw [if_pos (by omega),plain_jt s k (by omega)]
   unfold headW;simp [show ¬ s.size≤8 by omega]
  ·rw [if_neg (by omega),if_pos (by omega),sLetter_f]
   show spec_l11Plain.j0 k s (!ltC (bt s 0))=_
   rw [plain_j0 s hn (by omega) _ k hk,allLF_succ s 0 (by omega)]
   unfold headW
   have h0:bt s ((0:Nat):Int)=bt s 0:=rfl;rw [h0];simp only [show 1≤s.size by omega,show s.size≤8 by omega,decide_true,Bool.true_and,Bool.not_not]
   cases ltC (bt s 0) <;> cases fgC (bt s 0) <;> simp
theorem idxOf_neg (x:ByteArray):∀ (l:List ByteArray) (k:Nat),decide (idxOf x l k≥0)=l.any (fun y=>decide (x.toList=y.toList))
 | [],k=>by simp [idxOf]
 | y :: l,k=>by
  unfold idxOf
  by_cases h:x.toList=y.toList
  ·simp [h]
  ·rw [if_neg h,idxOf_neg x l (k+1),List.any_cons];simp [h]
theorem word_f' (s:ByteArray):spec_l11Word.f s=some (decide (idxOf s ownList 0≥0)):=by
 rw [idxOf_neg]
 unfold spec_l11Word.f
 simp only [ownList,List.any_cons,List.any_nil,Bool.or_false];have t:∀ (a:Array UInt8),(⟨a⟩:ByteArray).toList=a.toList:=fun a=>by rw [ByteArray.toList_eq]
 generalize s.toList=l;simp only [t]
 by_cases h1:l=[100,101,102]
 ·simp [h1]
 by_cases h2:l=[118,97,114]
 ·simp [h2]
 by_cases h3:l=[115,113,114,116]
 ·simp [h3]
 by_cases h4:l=[97,98,115]
 ·simp [h4]
 by_cases h5:l=[109,105,110]
 ·simp [h5]
 rw [if_neg h1,if_neg h2,if_neg h3,if_neg h4,if_neg h5]
 simp [h1,h2,h3,h4,h5]
 rw [Bool.eq_iff_iff];simp
theorem nameOk_f (s:ByteArray) (hn:s.size≤9223372036854775807) (k:Nat) (hk:s.size+1<k):spec_LangNameOk.f k s=some (nameB s):=by
 unfold spec_LangNameOk.f nameB
 rw [plain_f s hn k hk,word_f']
 cases wordB s <;> simp
def tl (s:ByteArray) (p:Nat):List UInt8:=s.data.toList.drop p
theorem tl_len (s:ByteArray) (p:Nat):(tl s p).length=s.size - p:=by unfold tl;simp
theorem tl_lt {s:ByteArray} {p:Nat} (h:p<s.size):tl s p=s[p] :: tl s (p+1):=by
 unfold tl;rw [List.drop_eq_getElem_cons (by simpa using h)];rfl
theorem tl_ge {s:ByteArray} {p:Nat} (h:s.size≤p):tl s p=[]:=by unfold tl;exact List.drop_of_length_le (by simpa using h)
theorem bt_lt {s:ByteArray} {p:Nat} (h:p<s.size):bt s (p:Int)=(s[p].toNat:Int):=by
 unfold bt;rw [dif_pos (by simpa using h)];simp
theorem fgC_u (c:UInt8):fgC (c.toNat:Int)=figU c:=by unfold fgC figU;congr 1 <;> (rw [Bool.eq_iff_iff];simp <;> omega)
theorem run_l0 (s:ByteArray) (hn:s.size≤4611686018427387904) (p:Nat):∀ (d n:Nat),p+n≤s.size→s.size - (p+n)<d→spec_l11Run.l0 d s (p:Int) (n:Int)=some ((n+((tl s (p+n)).takeWhile figU).length:Nat):Int)
 | 0,n,_,h=>by omega
 | d+1,n,hp,hd=>by
  unfold spec_l11Run.l0
  have e1:wrap64 ((p:Int)+(n:Int))=((p+n:Nat):Int):=by unfold wrap64;omega
  rw [e1]
  by_cases hlt:p+n<s.size
  ·rw [if_pos (by omega),if_pos (by omega),sDigit_f,bt_lt hlt,fgC_u,tl_lt hlt,Option.bind_some]
   cases hf:figU s[p+n] with
   | true=>
    rw [if_pos rfl,List.takeWhile_cons,hf,w64_succ (n:=n+1) (by omega) (by omega),run_l0 s hn p d (n+1) (by omega) (by omega)];simp only [if_true,List.length_cons];rw [Nat.add_assoc p n 1];congr 2;omega
   | false=>rw [if_neg (by simp),List.takeWhile_cons,hf];simp
  ·rw [if_neg (by omega),tl_ge (by omega)];simp
theorem run_f (s:ByteArray) (hn:s.size≤4611686018427387904) (p d:Nat) (hp:p≤s.size) (hd:s.size<d):spec_l11Run.f d s (p:Int)=some (((tl s p).takeWhile figU).length:Int):=by
 unfold spec_l11Run.f
 have:=run_l0 s hn p d 0 (by omega) (by omega);rw [show ((0:Nat):Int)=0 from rfl] at this;rw [this];simp
theorem dropW (l:List UInt8):l.dropWhile figU=l.drop (l.takeWhile figU).length:=by
 have h:=List.takeWhile_append_dropWhile (p:=figU) (l:=l);have:l.drop (l.takeWhile figU).length=(l.takeWhile figU++l.dropWhile figU).drop (l.takeWhile figU).length:=by rw [h]
 rw [this,List.drop_left]
theorem takeW_le (l:List UInt8):(l.takeWhile figU).length≤l.length:=by
 have h:=congrArg List.length (List.takeWhile_append_dropWhile (p:=figU) (l:=l));rw [List.length_append] at h;omega
theorem tl_drop (s:ByteArray) (p:Nat):(tl s p).dropWhile figU=tl s (p+((tl s p).takeWhile figU).length):=by
 rw [dropW];unfold tl;rw [List.drop_drop]
def tailL (m:Bool) (y:List UInt8):Bool:=
 !(y.takeWhile figU).isEmpty&&decide ((y.takeWhile figU).length≤3)&&!((y.takeWhile figU).head? == some 48&&(decide ((y.takeWhile figU).length > 1)||m))&&
  !(decide ((y.takeWhile figU).length=3)&&Op.bytesLess [52,48,48] (y.takeWhile figU))&&(y.dropWhile figU).isEmpty
def powL (y:List UInt8):Bool:=tailL (minusU y) (restU y)
def expL (r:List UInt8):Bool:=if r.head?=some 101 then powL r.tail else r.isEmpty
def fracL (r:List UInt8):Bool:=if r.head?=some 46 then !(r.tail.takeWhile figU).isEmpty&&expL (r.tail.dropWhile figU) else expL r
def numL (l:List UInt8):Bool:=!(l.takeWhile figU).isEmpty&&!(decide ((l.takeWhile figU).length > 1)&&l.head? == some 48)&&fracL (l.dropWhile figU)
theorem j4_core (s:ByteArray) (hn:s.size≤4611686018427387904) (p:Nat) (hp:p≤s.size) (m:Bool) (t:Int) (ht:t=(((tl s p).takeWhile figU).length:Int)) (e48:Option Bool)
 (he:m=true→e48=some false) (he':m=false→e48=if t > 1 then some false else some (t+p == (s.size:Int))) :
 (if t=0 then (some false) else (if t > 3 then (some false) else (if 0≤(p:Int) then (if (p:Int)<(s.size:Int) then (if (bt s (p:Int))=48 then e48 else (if t=3 then (if (p:Int)≤(wrap64 ((p:Int)+t)) then (if (wrap64 ((p:Int)+t))≤(s.size:Int) then (if (Op.bytesLess ([52,48,48]:List UInt8) ((s.extract (p:Int).toNat (wrap64 ((p:Int)+t)).toNat).toList))=true then (some false) else (some ((wrap64 ((p:Int)+t)) == (s.size:Int)))) else (none)) else (none)) else (some ((wrap64 ((p:Int)+t)) == (s.size:Int))))) else (none)) else (none))))=some (tailL m (tl s p)):=by
 have hle:=takeW_le (tl s p);rw [tl_len] at hle;have hw:wrap64 ((p:Int)+t)=((p+((tl s p).takeWhile figU).length:Nat):Int):=by rw [ht];unfold wrap64;omega
 have hemp:(wrap64 ((p:Int)+t) == (s.size:Int))=((tl s p).dropWhile figU).isEmpty:=by
  rw [hw,tl_drop,Bool.eq_iff_iff,beq_iff_eq,List.isEmpty_iff,← List.length_eq_zero_iff,tl_len];omega
 have hemp2:(t+p == (s.size:Int))=((tl s p).dropWhile figU).isEmpty:=by
  rw [← hemp,hw,ht];congr 1;omega
 have hhead:p<s.size→((tl s p).takeWhile figU)≠[]→((tl s p).takeWhile figU).head?=some s[p]!:=by
  intro h h1;have e:s[p]! = s[p]:=getElem!_pos s p h;rw [tl_lt h] at h1 ⊢;rw [List.takeWhile_cons] at h1 ⊢
  cases hf:figU s[p] with
  | true=>simp [e]
  | false=>simp [hf] at h1
 unfold tailL
 generalize hc:(tl s p).takeWhile figU=c at *
 by_cases h0:c.length=0
 ·rw [if_pos (by omega)];have:c=[]:=List.length_eq_zero_iff.1 h0;subst this;simp
 ·have hne:c≠[]:=fun e=>h0 (by rw [e];rfl)
  rw [if_neg (by omega)]
  by_cases h3:c.length > 3
  ·rw [if_pos (by omega)];simp [show ¬ c.length≤3 by omega]
  ·rw [if_neg (by omega),if_pos (by omega),if_pos (by omega)];have hps:p<s.size:=by omega
   have hb:(bt s (p:Int)=48)↔s[p]! = 48:=by
    rw [bt_lt hps,getElem!_pos s p hps];constructor
    ·intro h;exact UInt8.toNat_inj.1 (by show s[p].toNat=48;omega)
    ·intro h;rw [h];rfl
   have he0:c.isEmpty=false:=by simpa using hne
   rw [hhead hps hne]
   by_cases h48:bt s (p:Int)=48
   ·rw [if_pos h48];rw [hb] at h48;rw [h48,he0]
    cases m with
    | true=>rw [he rfl];simp
    | false=>
     rw [he' rfl,hemp2]
     by_cases h1:c.length > 1
     ·rw [if_pos (by omega)];simp [h1]
     ·rw [if_neg (by omega)];simp [h1,show c.length≤3 by omega,show c.length≠3 by omega]
   ·rw [if_neg h48];rw [hb] at h48;have hx:((some s[p]! : Option UInt8) == some 48)=false:=by simpa using h48
    rw [hx,he0,hemp]
    by_cases ht3:c.length=3
    ·rw [if_pos (by omega),if_pos (by omega),if_pos (by omega)];have hex:(s.extract (p:Int).toNat (wrap64 ((p:Int)+t)).toNat).toList=c:=by
      rw [hw,ByteArray.toList_eq];simp only [Int.toNat_natCast];rw [ByteArray.data_extract,Array.toList_extract,List.extract_eq_take_drop,Nat.add_sub_cancel_left]
      show (tl s p).take c.length=c
      have:=List.takeWhile_append_dropWhile (p:=figU) (l:=tl s p);rw [hc] at this;rw [← this,List.take_left]
     rw [hex]
     cases Op.bytesLess [52,48,48] c <;> simp [ht3]
    ·rw [if_neg (by omega)];simp [ht3,show c.length≤3 by omega]
theorem j4_f (s:ByteArray) (hn:s.size≤4611686018427387904) (d p:Nat) (m:Bool) (hp:p+(if m then 1 else 0)≤s.size) (hd:s.size+1<d) :
 spec_LangNumOk.j4 d s (p:Int) m=some (tailL m (tl s (p+(if m then 1 else 0)))):=by
 obtain ⟨d,rfl⟩:∃ m,d=m+1:=⟨d - 1,by omega⟩
 cases m with
 | true=>
  simp only [if_true] at hp ⊢;have hw:wrap64 ((p:Int)+1)=((p+1:Nat):Int):=by unfold wrap64;omega
  simp only [spec_LangNumOk.j4,if_true];rw [hw,run_f s hn (p+1) d hp (by omega),Option.bind_some];rw [← j4_core s hn (p+1) hp true _ rfl (some false) (fun _=>rfl) (fun h=>by cases h)];simp only [ite_self]
 | false=>
  simp only [Bool.false_eq_true,if_false,Nat.add_zero] at hp ⊢;simp only [spec_LangNumOk.j4,Bool.false_eq_true,if_false];rw [run_f s hn p d hp (by omega),Option.bind_some];have hle:=takeW_le (tl s p);rw [tl_len] at hle;generalize ht:(((tl s p).takeWhile figU).length:Int)=t at *;have hw:wrap64 ((p:Int)+t)=(p:Int)+t:=by unfold wrap64;omega
  rw [← j4_core s hn p hp false t ht.symm (if t > 1 then some false else some (t+p == (s.size:Int))) (fun h=>by cases h) (fun _=>rfl)]
  by_cases h1:t > 1
  ·rw [if_pos h1,if_pos h1]
  ·rw [if_neg h1,if_neg h1,if_neg (show ¬ t=3 by omega)];rw [hw,Int.add_comm t p]
theorem head_tl {s:ByteArray} {p:Nat} (c:UInt8) (h:p<s.size):(bt s (p:Int) == (c.toNat:Int))=decide ((tl s p).head?=some c):=by
 rw [bt_lt h,tl_lt h,List.head?_cons,Bool.eq_iff_iff];simp only [beq_iff_eq,decide_eq_true_eq,Option.some.injEq];constructor
 ·intro e;exact UInt8.toNat_inj.1 (by omega)
 ·intro e;rw [e]
theorem tail_tl {s:ByteArray} {p:Nat} (h:p<s.size):(tl s p).tail=tl s (p+1):=by rw [tl_lt h];rfl
theorem j3_f (s:ByteArray) (hn:s.size≤4611686018427387904) (d p:Nat) (b:Bool) (hp:p≤s.size) (hb:b=decide ((tl s p).head?=some 101)) (hd:s.size+2<d) :
 spec_LangNumOk.j3 d s (p:Int) b=some (expL (tl s p)):=by
 obtain ⟨d,rfl⟩:∃ m,d=m+1:=⟨d - 1,by omega⟩
 unfold expL
 by_cases h:(tl s p).head?=some 101
 ·have hlt:p<s.size:=by
   refine Nat.lt_of_not_le fun hle=>?_
   rw [tl_ge hle] at h;cases h
  rw [decide_eq_true h] at hb;subst hb;rw [if_pos h,tail_tl hlt];simp only [spec_LangNumOk.j3,if_true];have hw:wrap64 ((p:Int)+1)=((p+1:Nat):Int):=by unfold wrap64;omega
  rw [hw];have hm:minusU (tl s (p+1))=decide ((tl s (p+1)).head?=some 45):=by
   unfold minusU;rw [Bool.eq_iff_iff];simp
  unfold powL restU
  by_cases h2:p+1<s.size
  ·rw [if_pos (by omega),if_pos (by omega)];have:=head_tl (s:=s) (p:=p+1) 45 h2;rw [show ((45:UInt8).toNat:Int)=45 from rfl] at this;rw [this,hm]
   cases hq:decide ((tl s (p+1)).head?=some 45) with
   | true=>
    rw [j4_f s hn d (p+1) true (by simp;omega) (by omega)];simp only [if_true];rw [List.drop_one,tail_tl h2]
   | false=>
    rw [j4_f s hn d (p+1) false (by simp;omega) (by omega)]
    simp
  ·rw [if_neg (by omega),hm,tl_ge (by omega),j4_f s hn d (p+1) false (by simp;omega) (by omega)]
   simp [tl_ge (show s.size≤p+1 by omega)]
 ·rw [decide_eq_false h] at hb;subst hb;rw [if_neg h];simp only [spec_LangNumOk.j3,Bool.false_eq_true,if_false]
  congr 1
  rw [Bool.eq_iff_iff,beq_iff_eq,List.isEmpty_iff,← List.length_eq_zero_iff,tl_len];omega
theorem j2_f (s:ByteArray) (hn:s.size≤4611686018427387904) (d p:Nat) (hp:p≤s.size) (hd:s.size+3<d) :
 spec_LangNumOk.j2 d s (p:Int)=some (expL (tl s p)):=by
 obtain ⟨d,rfl⟩:∃ m,d=m+1:=⟨d - 1,by omega⟩;simp only [spec_LangNumOk.j2]
 by_cases h:p<s.size
 ·rw [if_pos (by omega),if_pos (by omega)];exact j3_f s hn d p _ hp (head_tl (s:=s) (p:=p) 101 h) (by omega)
 ·rw [if_neg (by omega)];exact j3_f s hn d p _ hp (by rw [tl_ge (by omega)];rfl) (by omega)
theorem j1_f (s:ByteArray) (hn:s.size≤4611686018427387904) (d p:Nat) (b:Bool) (hp:p≤s.size) (hb:b=decide ((tl s p).head?=some 46)) (hd:s.size+4<d) :
 spec_LangNumOk.j1 d s (p:Int) b=some (fracL (tl s p)):=by
 obtain ⟨d,rfl⟩:∃ m,d=m+1:=⟨d - 1,by omega⟩
 unfold fracL
 by_cases h:(tl s p).head?=some 46
 ·have hlt:p<s.size:=by
   refine Nat.lt_of_not_le fun hle=>?_
   rw [tl_ge hle] at h;cases h
  rw [decide_eq_true h] at hb;subst hb;rw [if_pos h,tail_tl hlt];simp only [spec_LangNumOk.j1,if_true];have hw:wrap64 ((p:Int)+1)=((p+1:Nat):Int):=by unfold wrap64;omega
  rw [hw,run_f s hn (p+1) d (by omega) (by omega),Option.bind_some,tl_drop];have hle:=takeW_le (tl s (p+1));rw [tl_len] at hle;generalize hc:(tl s (p+1)).takeWhile figU=c at *
  by_cases h0:c.length=0
  ·rw [if_pos (by omega)];have:c=[]:=List.length_eq_zero_iff.1 h0;subst this;rfl
  ·rw [if_neg (by omega)];have hw2:wrap64 (((p+1:Nat):Int)+(c.length:Int))=((p+1+c.length:Nat):Int):=by unfold wrap64;omega
   have hne:c.isEmpty=false:=by
    rw [Bool.eq_false_iff];intro e;exact h0 (by rw [List.isEmpty_iff] at e;rw [e];rfl)
   rw [hw2,j2_f s hn d _ (by omega) (by omega),hne];rfl
 ·rw [decide_eq_false h] at hb;subst hb;rw [if_neg h];simp only [spec_LangNumOk.j1,Bool.false_eq_true,if_false];exact j2_f s hn d p hp (by omega)
theorem j0_f (s:ByteArray) (hn:s.size≤4611686018427387904) (d p:Nat) (b:Bool) (hp:p≤s.size) (hd:s.size+5<d) :
 spec_LangNumOk.j0 d s (p:Int) b=some (!b&&fracL (tl s p)):=by
 obtain ⟨d,rfl⟩:∃ m,d=m+1:=⟨d - 1,by omega⟩
 cases b with
 | true=>simp only [spec_LangNumOk.j0,if_true];rfl
 | false=>
  simp only [spec_LangNumOk.j0,Bool.false_eq_true,if_false]
  by_cases h:p<s.size
  ·rw [if_pos (by omega),if_pos (by omega)];exact (j1_f s hn d p _ hp (head_tl (s:=s) (p:=p) 46 h) (by omega)).trans rfl
  ·rw [if_neg (by omega),j1_f s hn d p _ hp (by rw [tl_ge (by omega)];rfl) (by omega)];rfl
theorem tl_zero (s:ByteArray):tl s 0=s.data.toList:=by unfold tl;rfl
theorem specNum_f (s:ByteArray) (hn:s.size≤4611686018427387904) (d:Nat) (hd:s.size+5<d):spec_LangNumOk.f d s=some (numL s.data.toList&&decide (s.size≤60)):=by
 unfold spec_LangNumOk.f
 have hr:=run_f s hn 0 d (by omega) (by omega);rw [show ((0:Nat):Int)=0 from rfl,tl_zero] at hr;rw [hr,Option.bind_some];have hle:=takeW_le (s.data.toList);have hsl:s.data.toList.length=s.size:=by simp
 rw [hsl] at hle;have hdr:=tl_drop s 0;rw [tl_zero,Nat.zero_add] at hdr
 unfold numL
 rw [hdr];generalize hc:s.data.toList.takeWhile figU=c at *
 by_cases h60:s.size > 60
 ·rw [if_pos (by omega),j0_f s hn d _ _ hle hd];simp [show ¬ s.size≤60 by omega]
 ·rw [if_neg (by omega),show decide (s.size≤60)=true from decide_eq_true (by omega),Bool.and_true]
  by_cases h0:c.length=0
  ·rw [if_pos (by omega),j0_f s hn d _ _ hle hd];have:c=[]:=List.length_eq_zero_iff.1 h0;subst this;rfl
  ·rw [if_neg (by omega)];have hne:c.isEmpty=false:=by
    rw [Bool.eq_false_iff];intro e;exact h0 (by rw [List.isEmpty_iff] at e;rw [e];rfl)
   have h48:=head_tl (s:=s) (p:=0) 48 (by omega);rw [tl_zero,show ((48:UInt8).toNat:Int)=48 from rfl,show ((0:Nat):Int)=0 from rfl] at h48
   by_cases h1:c.length > 1
   ·rw [if_pos (by omega),if_pos (by omega),j0_f s hn d _ _ hle hd,h48,hne]
    congr 1
    simp [h1]
    rw [Bool.eq_iff_iff];simp
   ·rw [if_neg (by omega),j0_f s hn d _ _ hle hd,hne];simp [h1]
theorem index_one (c:UInt8):∀ l:List UInt8,Lib.index l [c]=if c∈l then ((l.takeWhile (· != c)).length:Int) else -1
 | []=>by simp [Lib.index]
 | b :: l=>by
  unfold Lib.index
  rw [index_one c l]
  by_cases h:b=c
  ·subst h;simp [List.isPrefixOf]
  ·have h1:¬ c=b:=fun e=>h e.symm
   have:([c].isPrefixOf (b :: l))=false:=by simp [List.isPrefixOf,h1]
   rw [this];simp only [Bool.false_eq_true,if_false,List.mem_cons,h1,false_or];have h2:(b != c)=true:=by simpa using h
   by_cases hm:c∈l
   ·rw [if_pos hm,if_pos hm,List.takeWhile_cons,h2];simp
   ·rw [if_neg hm,if_neg hm];rfl
theorem cut_fst (c:UInt8) (l:List UInt8):(Lib.cut l [c]).1=l.takeWhile (· != c):=by
 unfold Lib.cut
 rw [index_one]
 by_cases hm:c∈l
 ·rw [if_pos hm,if_pos (by omega)];simp only [Int.toNat_natCast];have h:=List.takeWhile_append_dropWhile (p:=(· != c)) (l:=l);have:l.take (l.takeWhile (· != c)).length=(l.takeWhile (· != c)++l.dropWhile (· != c)).take (l.takeWhile (· != c)).length:=by rw [h]
  rw [this,List.take_left]
 ·rw [if_neg hm,if_neg (by omega)];have:∀ x∈l,(x != c)=true:=fun x hx=>by simp only [bne_iff_ne,ne_eq];intro e;exact hm (e ▸ hx)
  have:=List.takeWhile_append_of_pos (p:=(· != c)) (l₂:=[]) this
  simpa using this.symm
theorem cut_app (c:UInt8) (a b:List UInt8) (h:c∉a):Lib.cut (a++c :: b) [c]=(a,b,true):=by
 have ht:∀ x∈a,(x != c)=true:=fun x hx=>by simp only [bne_iff_ne,ne_eq];intro e;exact h (e ▸ hx)
 have h2:=List.takeWhile_append_of_pos (p:=(· != c)) (l₂:=c :: b) ht;have h3:(a++c :: b).takeWhile (· != c)=a:=by rw [h2];simp
 unfold Lib.cut
 have hi:Lib.index (a++c :: b) [c]=(a.length:Int):=by rw [index_one,if_pos (by simp),h3]
 rw [hi,if_pos (Int.natCast_nonneg _)];simp only [Int.toNat_natCast,List.take_left,List.length_singleton]
 congr 1
 rw [show a++c :: b=(a++[c])++b by simp,show a.length+1=(a++[c]).length by simp,List.drop_left]
theorem cut_none (c:UInt8) (l:List UInt8) (h:c∉l):Lib.cut l [c]=(l,[],false):=by
 unfold Lib.cut
 rw [index_one,if_neg h,if_neg (by omega)]
theorem fig_ne {a:List UInt8} (h:∀ x∈a,figU x=true) (c:UInt8) (hc:figU c=false):c∉a:=fun hm=>by rw [h c hm] at hc;cases hc
theorem digitsU_of {a:List UInt8} (h:∀ x∈a,figU x=true):digitsU a=!a.isEmpty:=by
 unfold digitsU;rw [List.all_eq_true.2 h];rfl
theorem digitsU_no {a b:List UInt8} {c:UInt8} (hc:figU c=false):digitsU (a++c :: b)=false:=by
 unfold digitsU;rw [List.all_append,List.all_cons,hc];simp
theorem wholeU_of {a:List UInt8} (h:∀ x∈a,figU x=true):wholeU a=(!a.isEmpty&&!(decide (a.length > 1)&&a.head? == some 48)):=by
 unfold wholeU
 rw [digitsU_of h]
 match a with
 | []=>rfl
 | [x]=>
  simp only [List.head?_cons,List.length_singleton]
  by_cases e:x=48
  ·subst e;rfl
  ·have:(some x == some (48:UInt8))=false:=by simpa using e
   rw [this];simp
 | x :: y :: r=>
  have:((x :: y :: r) == [(48:UInt8)])=false:=by simp
  rw [this];simp
theorem wholeU_no {a b:List UInt8} {c:UInt8} (hc:figU c=false):wholeU (a++c :: b)=false:=by unfold wholeU;rw [digitsU_no hc];rfl
theorem headU_end {a:List UInt8} (h:∀ x∈a,figU x=true):headU a=wholeU a:=by
 unfold headU;rw [cut_none 46 a (fig_ne h 46 rfl)];simp
theorem headU_dot {a b:List UInt8} (h:∀ x∈a,figU x=true):headU (a++46 :: b)=(wholeU a&&digitsU b):=by
 unfold headU;rw [cut_app 46 a b (fig_ne h 46 rfl)];simp
theorem takeW_ne {a b:List UInt8} (h:∀ x∈a,figU x=true) (c:UInt8) (hc:figU c=false) (d:UInt8) (hd:d≠c):(a++d :: b).takeWhile (· != c)=a++d :: b.takeWhile (· != c):=by
 have ht:∀ x∈a,(x != c)=true:=fun x hx=>by simp only [bne_iff_ne,ne_eq];intro e;exact fig_ne h c hc (e ▸ hx)
 rw [List.takeWhile_append_of_pos ht,List.takeWhile_cons];have:(d != c)=true:=by simpa using hd
 rw [this];rfl
theorem headU_no {a b:List UInt8} {c:UInt8} (h:∀ x∈a,figU x=true) (hc:figU c=false) (hd:c≠46):headU (a++c :: b)=false:=by
 unfold headU;rw [cut_fst,takeW_ne h 46 rfl c hd,wholeU_no hc];rfl
theorem tw_fig (l:List UInt8):∀ x∈l.takeWhile figU,figU x=true:=fun x hx=>by
 have:=List.all_takeWhile (p:=figU) (l:=l);exact List.all_eq_true.1 this x hx
theorem dw_head (l:List UInt8) (c:UInt8) (r:List UInt8) (h:l.dropWhile figU=c :: r):figU c=false:=by
 have:=List.head?_dropWhile_not figU l;rw [h] at this;simpa using this
theorem parse_digits:∀ (l:List UInt8) (acc:Nat),(∀ x∈l,figU x=true)→acc * 10 ^ l.length+10 ^ l.length≤10000→Lib.parseUint10 acc l=.ok (l.foldl (fun n c=>n * 10+(c.toNat - 48)) acc)
 | [],acc,_,_=>rfl
 | c :: l,acc,h,hb=>by
  have hc:=h c (by simp)
  unfold figU at hc
  simp only [Bool.and_eq_true,decide_eq_true_eq] at hc;have hp:10 ^ (c :: l).length=10 ^ l.length * 10:=by rw [List.length_cons,Nat.pow_succ]
  have h1:1≤10 ^ l.length:=Nat.one_le_pow _ _ (by omega);have hm:(acc+1) * (10 ^ l.length * 10)≤10000:=by rw [Nat.add_mul,Nat.one_mul,← hp];exact hb
  have hm2:(acc+1) * 10≤(acc+1) * (10 ^ l.length * 10):=Nat.mul_le_mul_left _ (by omega);have hk:(acc * 10+(c.toNat - 48)) * 10 ^ l.length+10 ^ l.length≤10000:=by
   have:(acc * 10+(c.toNat - 48)+1) * 10 ^ l.length≤((acc+1) * 10) * 10 ^ l.length:=Nat.mul_le_mul_right _ (by omega);rw [Nat.add_mul,Nat.one_mul] at this;have e:((acc+1) * 10) * 10 ^ l.length=(acc+1) * (10 ^ l.length * 10):=by rw [Nat.mul_assoc,Nat.mul_comm 10]
   omega
  have ih:=parse_digits l (acc * 10+(c.toNat - 48)) (fun x hx=>h x (by simp [hx])) hk
  unfold Lib.parseUint10
  rw [if_pos (by omega),if_neg (by omega),if_neg (by omega),ih];rfl
def valU (l:List UInt8):Nat:=l.foldl (fun n c=>n * 10+(c.toNat - 48)) 0
theorem atoi_digits {l:List UInt8} (h:∀ x∈l,figU x=true) (h0:l≠[]) (h3:l.length≤3):Lib.atoiAll l=.ok (valU l:Int):=by
 have hp:10 ^ l.length≤10 ^ 3:=Nat.pow_le_pow_right (by omega) h3;have hd:=parse_digits l 0 h (by omega)
 match l,h0 with
 | c :: r,_=>
  have hc:=h c (by simp)
  unfold figU at hc
  simp only [Bool.and_eq_true,decide_eq_true_eq] at hc
  unfold Lib.atoiAll
  have e1:¬ (c.toNat=43∨c.toNat=45):=by omega
  have e2:¬ (c.toNat=45):=by omega
  have hb:valU (c :: r)<1000:=by
   have:∀ (l:List UInt8) (acc:Nat),(∀ x∈l,figU x=true)→l.foldl (fun n c=>n * 10+(c.toNat - 48)) acc<(acc+1) * 10 ^ l.length:=by
    intro l
    induction l with
    | nil=>intro acc _;simp
    | cons c l ih=>
     intro acc h;have hc:=h c (by simp)
     unfold figU at hc
     simp only [Bool.and_eq_true,decide_eq_true_eq] at hc;have:=ih (acc * 10+(c.toNat - 48)) (fun x hx=>h x (by simp [hx]));have h2:(acc * 10+(c.toNat - 48)+1) * 10 ^ l.length≤((acc+1) * 10) * 10 ^ l.length:=Nat.mul_le_mul_right _ (by omega);rw [List.foldl_cons,List.length_cons,Nat.pow_succ,Nat.mul_comm (10 ^ l.length) 10,← Nat.mul_assoc];omega
   have:=this (c :: r) 0 h
   unfold valU
   omega
  have hm:Lib.parseMag (c :: r)=.ok (valU (c :: r)):=by unfold Lib.parseMag;rw [if_neg (by simp)];exact hd
  simp only [if_neg e1,hm,if_neg e2];rw [if_neg (by omega),if_neg (by omega)]
theorem three (a b c:Nat) (ha:a<10) (hb:b<10) (hc:c<10):(Op.bytesLess [52,48,48] [UInt8.ofNat (48+a),UInt8.ofNat (48+b),UInt8.ofNat (48+c)])=decide (400<a * 100+b * 10+c):=by
 have:∀ a:Fin 10,∀ b:Fin 10,∀ c:Fin 10,(Op.bytesLess [52,48,48] [UInt8.ofNat (48+a.val),UInt8.ofNat (48+b.val),UInt8.ofNat (48+c.val)])=decide (400<a.val * 100+b.val * 10+c.val):=by decide +kernel
 exact this ⟨a,ha⟩ ⟨b,hb⟩ ⟨c,hc⟩
theorem fig_of {x:UInt8} (h:figU x=true):∃ a,a<10∧x=UInt8.ofNat (48+a)∧x.toNat - 48=a:=by
 unfold figU at h
 simp only [Bool.and_eq_true,decide_eq_true_eq] at h;refine ⟨x.toNat - 48,by omega,?_,rfl⟩;rw [show 48+(x.toNat - 48)=x.toNat by omega]
 simp
theorem less_400 {l:List UInt8} (h:∀ x∈l,figU x=true) (h3:l.length=3):Op.bytesLess [52,48,48] l=decide (400<valU l):=by
 match l,h3 with
 | [x,y,z],_=>
  obtain ⟨a,ha,rfl,va⟩:=fig_of (h x (by simp));obtain ⟨b,hb,rfl,vb⟩:=fig_of (h y (by simp));obtain ⟨c,hc,rfl,vc⟩:=fig_of (h z (by simp));rw [three a b c ha hb hc]
  unfold valU
  simp only [List.foldl_cons,List.foldl_nil,va,vb,vc]
  congr 1
  rw [eq_iff_iff];omega
theorem small_400 {l:List UInt8} (h:∀ x∈l,figU x=true) (h3:l.length<3):valU l≤400:=by
 match l,h3 with
 | [],_=>decide
 | [x],_=>
  obtain ⟨a,ha,rfl,va⟩:=fig_of (h x (by simp))
  unfold valU;simp only [List.foldl_cons,List.foldl_nil,va];omega
 | [x,y],_=>
  obtain ⟨a,ha,rfl,va⟩:=fig_of (h x (by simp));obtain ⟨b,hb,rfl,vb⟩:=fig_of (h y (by simp))
  unfold valU;simp only [List.foldl_cons,List.foldl_nil,va,vb];omega
theorem zero_val {l:List UInt8} (h:∀ x∈l,figU x=true) (hw:wholeU l=true) (h3:l.length≤3):decide ((valU l:Int)=0)=(l.head? == some 48):=by
 rw [wholeU_of h] at hw
 match l,h3 with
 | [],_=>simp at hw
 | [x],_=>
  obtain ⟨a,ha,rfl,va⟩:=fig_of (h x (by simp))
  unfold valU;simp only [List.foldl_cons,List.foldl_nil,va,List.head?_cons]
  have:∀ a:Fin 10,decide (((0 * 10+a.val:Nat):Int)=0)=(some (UInt8.ofNat (48+a.val)) == some 48):=by decide +kernel
  exact this ⟨a,ha⟩
 | x :: y :: r,_=>
  obtain ⟨a,ha,rfl,va⟩:=fig_of (h x (by simp));have hx:(some (UInt8.ofNat (48+a)) == some (48:UInt8))=false:=by
   simp only [List.head?_cons] at hw
   cases hb:(some (UInt8.ofNat (48+a)) == some (48:UInt8)) with
   | false=>rfl
   | true=>rw [hb] at hw;simp at hw
  rw [List.head?_cons,hx];have ha0:a≠0:=fun e=>by subst e;simp at hx
  have hge:∀ (l:List UInt8) (acc:Nat),1≤acc→1≤l.foldl (fun n c=>n * 10+(c.toNat - 48)) acc:=by
   intro l
   induction l with
   | nil=>intro acc h;exact h
   | cons c l ih=>intro acc h;exact ih _ (by show 1≤acc * 10+(c.toNat - 48);omega)
  have:1≤valU (UInt8.ofNat (48+a) :: y :: r):=by
   unfold valU;rw [List.foldl_cons,va];exact hge _ _ (by omega)
  exact decide_eq_false (by omega)
theorem powL_eq (y:List UInt8):powL y=powU y:=by
 unfold powL powU
 generalize minusU y=m;generalize restU y=z
 unfold tailL
 have hz:=List.takeWhile_append_dropWhile (p:=figU) (l:=z);have hf:=tw_fig z;generalize hc:z.takeWhile figU=c at *
 cases hr:z.dropWhile figU with
 | cons e r=>
  have he:=dw_head z e r hr;have:wholeU z=false:=by rw [← hz,hr];exact wholeU_no he
  rw [this];simp only [List.isEmpty_cons,Bool.and_false]
  cases Lib.atoiAll z <;> simp
 | nil=>
  rw [hr,List.append_nil] at hz;subst hz
  by_cases h0:c=[]
  ·subst h0;simp [Lib.atoiAll]
  have he:c.isEmpty=false:=by simpa using h0
  by_cases h3:c.length≤3
  ·rw [atoi_digits hf h0 h3];simp only [List.isEmpty_nil,Bool.and_true]
   cases hw:wholeU c with
   | false=>
    rw [wholeU_of hf,he] at hw;simp only [Bool.not_false,Bool.true_and,Bool.not_eq_false'] at hw;simp only [Bool.and_eq_true] at hw
    simp [hw.1,hw.2,he]
   | true=>
    have hz0:=zero_val hf hw h3;rw [hz0];rw [wholeU_of hf,he] at hw;simp only [Bool.not_false,Bool.true_and,Bool.not_eq_true'] at hw;have h400:(!(decide (c.length=3)&&Op.bytesLess [52,48,48] c))=decide ((valU c:Int)≤400):=by
     by_cases h:c.length=3
     ·rw [less_400 hf h];simp only [h,decide_true,Bool.true_and];rw [Bool.eq_iff_iff];simp;omega
     ·have:=small_400 hf (by omega);simp [h];omega
    rw [h400,he];simp only [h3,decide_true,Bool.not_false,Bool.true_and]
    cases hq:(c.head? == some 48) with
    | false=>simp
    | true=>
     rw [hq,Bool.and_true] at hw;rw [hw]
     cases m <;> cases decide ((valU c:Int)≤400) <;> rfl
  ·simp [h3]
   cases Lib.atoiAll c <;> simp [h3]
theorem numL_eq (l:List UInt8):numL l=litU l:=by
 unfold numL
 have hz:=List.takeWhile_append_dropWhile (p:=figU) (l:=l);have hf:=tw_fig l;have hd:=dw_head l;have hh:(decide ((l.takeWhile figU).length > 1)&&l.head? == some 48)=(decide ((l.takeWhile figU).length > 1)&&(l.takeWhile figU).head? == some 48):=by
  cases hq:l.takeWhile figU with
  | nil=>simp
  | cons x r=>
   rw [hq] at hz;have:l.head?=some x:=by rw [← hz];rfl
   rw [this];rfl
 rw [hh,← wholeU_of hf];clear hh;generalize l.takeWhile figU=a at *;generalize l.dropWhile figU=r at *;subst hz;have h101:(101:UInt8)∉a:=fig_ne hf 101 rfl
 unfold litU
 match r with
 | []=>
  rw [List.append_nil,cut_none 101 a h101]
  simp [fracL,expL,headU_end hf]
 | c :: r'=>
  have hcf:=hd c r' rfl
  by_cases h46:c=46
  ·subst h46
   unfold fracL
   rw [if_pos (show (_ :: _:List UInt8).head?=some _ from rfl),List.tail_cons];have hz:=List.takeWhile_append_dropWhile (p:=figU) (l:=r');have hg:=tw_fig r';have hd2:=dw_head r';generalize r'.takeWhile figU=b at *;generalize r'.dropWhile figU=r2 at *;subst hz;have hb101:(101:UInt8)∉b:=fig_ne hg 101 rfl;have hx:(101:UInt8)∉a++46 :: b:=by simp [h101,hb101]
   match r2 with
   | []=>
    rw [List.append_nil,cut_none 101 _ hx,headU_dot hf,digitsU_of hg]
    simp [expL]
   | e :: y=>
    have hef:=hd2 e y rfl
    by_cases he:e=101
    ·subst he;rw [show a++46 :: (b++101 :: y)=(a++46 :: b)++101 :: y by simp,cut_app 101 _ y hx,headU_dot hf,digitsU_of hg]
     unfold expL
     rw [if_pos (show (_ :: _:List UInt8).head?=some _ from rfl),List.tail_cons,powL_eq]
     simp
     rw [Bool.and_assoc]
    ·unfold expL
     rw [if_neg (by simpa using he),cut_fst];have ht:(a++46 :: (b++e :: y)).takeWhile (· != 101)=a++46 :: (b++e :: y.takeWhile (· != 101)):=by
      rw [takeW_ne hf 101 rfl 46 (by decide),takeW_ne hg 101 rfl e he]
     rw [ht,headU_dot hf,digitsU_no hef]
     simp
  ·unfold fracL
   rw [if_neg (by simpa using h46)]
   unfold expL
   by_cases he:c=101
   ·subst he;rw [if_pos (show (_ :: _:List UInt8).head?=some _ from rfl),List.tail_cons,cut_app 101 a r' h101,headU_end hf,powL_eq]
    simp
   ·rw [if_neg (by simpa using he),cut_fst,takeW_ne hf 101 rfl c he,headU_no hf hcf h46]
    simp
theorem numOk_f (s:ByteArray) (hn:s.size≤4611686018427387904) (d:Nat) (hd:s.size+5<d):spec_LangNumOk.f d s=some (numB s):=by
 rw [specNum_f s hn d hd,numL_eq];rfl
end Go.Proofs.YtbahacapnaohcaaGreatDoor.PB
