import Derived.WalkLawsBesides
import Derived.Test.YtbahacapnaohcaaGreatDoorA3
set_option linter.unusedVariables false
set_option linter.unusedSimpArgs false
namespace Go.Proofs.YtbahacapnaohcaaGreatDoor.PB
open Go.RowKit Go.Proofs.YtbahacapnaohcaaGreatDoorW.PrintWords Go.Proofs.YtbahacapnaohcaaGreatDoorW.PrintLast Go.Proofs.YtbahacapnaohcaaGreatDoorW.PrintMore
theorem less_total:∀ a b:List UInt8,(!(Op.bytesLess a b||a == b))=Op.bytesLess b a
 | [],[]=>rfl
 | [],_ :: _=>rfl
 | _ :: _,[]=>rfl
 | a :: x,b :: y=>by
  have ih:=less_total x y;simp only [Op.bytesLess];have h:=UInt8.lt_iff_toNat_lt (a:=a) (b:=b);have h2:=UInt8.lt_iff_toNat_lt (a:=b) (b:=a)
  by_cases e:a=b
  ·subst e;simp at ih ⊢;exact ih
  ·have ne:a.toNat≠b.toNat:=fun q=>e (UInt8.toNat_inj.1 q)
   have:(a == b)=false:=by simpa using e
   have:(b == a)=false:=by simpa using (fun q=>e (Eq.symm q))
   by_cases l:a<b <;> by_cases l2:b<a <;> simp_all <;> omega
theorem gtr_less (t:TypeId) (a b:ByteArray):binOp .gtr t (.string a) (.string b)=pure (.bool (Op.bytesLess b.toList a.toList)):=by rw [← less_total];simp [binOp,Op.stringOp]
attribute [local go_sem 2000] gtr_less
mutual
def spec_LangNumOk.j0:Nat→ByteArray→Int→Bool→Option (Bool)
 | 0,_,_,_=>none
 | k+1,x0,x3,x25=>if x25=true then (some false) else (if x3<(x0.size:Int) then (if 0≤x3 then (spec_LangNumOk.j1 k x0 x3 ((bt x0 x3) == 46)) else (none)) else (spec_LangNumOk.j1 k x0 x3 false))
def spec_LangNumOk.j1:Nat→ByteArray→Int→Bool→Option (Bool)
 | 0,_,_,_=>none
 | k+1,x0,x4,x36=>if x36=true then ((spec_l11Run.f k x0 (wrap64 (x4+1))).bind fun t399=>(if t399=0 then (some false) else (spec_LangNumOk.j2 k x0 (wrap64 ((wrap64 (x4+1))+t399))))) else (spec_LangNumOk.j2 k x0 x4)
def spec_LangNumOk.j2:Nat→ByteArray→Int→Option (Bool)
 | 0,_,_=>none
 | k+1,x0,x4=>if x4<(x0.size:Int) then (if 0≤x4 then (spec_LangNumOk.j3 k x0 x4 ((bt x0 x4) == 101)) else (none)) else (spec_LangNumOk.j3 k x0 x4 false)
def spec_LangNumOk.j3:Nat→ByteArray→Int→Bool→Option (Bool)
 | 0,_,_,_=>none
 | k+1,x0,x4,x56=>if x56=true then (if (wrap64 (x4+1))<(x0.size:Int) then (if 0≤(wrap64 (x4+1)) then (spec_LangNumOk.j4 k x0 (wrap64 (x4+1)) ((bt x0 (wrap64 (x4+1))) == 45)) else (none)) else (spec_LangNumOk.j4 k x0 (wrap64 (x4+1)) false)) else (some (x4 == (x0.size:Int)))
def spec_LangNumOk.j4:Nat→ByteArray→Int→Bool→Option (Bool)
 | 0,_,_,_=>none
 | k+1,x0,x4,x6=>if x6=true then ((spec_l11Run.f k x0 (wrap64 (x4+1))).bind fun t400=>(if t400=0 then (some false) else (if t400 > 3 then (some false) else (if 0≤(wrap64 (x4+1)) then (if (wrap64 (x4+1))<(x0.size:Int) then (if (bt x0 (wrap64 (x4+1)))=48 then (if t400 > 1 then (some false) else (some false)) else (if t400=3 then (if (wrap64 (x4+1))≤(wrap64 ((wrap64 (x4+1))+t400)) then (if (wrap64 ((wrap64 (x4+1))+t400))≤(x0.size:Int) then (if (Op.bytesLess ([52,48,48]:List UInt8) ((x0.extract ((wrap64 (x4+1)):Int).toNat ((wrap64 ((wrap64 (x4+1))+t400)):Int).toNat).toList))=true then (some false) else (some ((wrap64 ((wrap64 (x4+1))+t400)) == (x0.size:Int)))) else (none)) else (none)) else (some ((wrap64 ((wrap64 (x4+1))+t400)) == (x0.size:Int))))) else (none)) else (none))))) else ((spec_l11Run.f k x0 x4).bind fun t401=>(if t401=0 then (some false) else (if t401 > 3 then (some false) else (if 0≤x4 then (if x4<(x0.size:Int) then (if (bt x0 x4)=48 then (if t401 > 1 then (some false) else (if t401=3 then (if x4≤(wrap64 (x4+t401)) then (if (wrap64 (x4+t401))≤(x0.size:Int) then (if (Op.bytesLess ([52,48,48]:List UInt8) ((x0.extract (x4:Int).toNat ((wrap64 (x4+t401)):Int).toNat).toList))=true then (some false) else (some ((wrap64 (x4+t401)) == (x0.size:Int)))) else (none)) else (none)) else (some ((wrap64 (x4+t401)) == (x0.size:Int))))) else (if t401=3 then (if x4≤(wrap64 (x4+t401)) then (if (wrap64 (x4+t401))≤(x0.size:Int) then (if (Op.bytesLess ([52,48,48]:List UInt8) ((x0.extract (x4:Int).toNat ((wrap64 (x4+t401)):Int).toNat).toList))=true then (some false) else (some ((wrap64 (x4+t401)) == (x0.size:Int)))) else (none)) else (none)) else (some ((wrap64 (x4+t401)) == (x0.size:Int))))) else (none)) else (none)))))
end
def spec_LangNumOk.f (k:Nat) (a0:ByteArray):Option (Bool):=(spec_l11Run.f k a0 0).bind fun t398=>(if (a0.size:Int) > 60 then (spec_LangNumOk.j0 k a0 t398 true) else (if t398=0 then (spec_LangNumOk.j0 k a0 t398 true) else (if t398 > 1 then (if 0<(a0.size:Int) then (spec_LangNumOk.j0 k a0 t398 ((bt a0 0) == 48)) else (none)) else (spec_LangNumOk.j0 k a0 t398 false))))
set_option maxHeartbeats 8000000 in
set_option maxRecDepth 100000 in
theorem spec_LangNumOk.calls (k:Nat) (a0:ByteArray) (r:Bool) (w:World) (h:spec_LangNumOk.f k a0=some r) :
 Calls Tryz.prog 171 #[.string a0] w fun e w'=>e=.returned (.bool r)∧Drawn0 w w':=by
 have H:((spec_l11Run.f k a0 0).bind fun t398=>(if (a0.size:Int) > 60 then (spec_LangNumOk.j0 k a0 t398 true) else (if t398=0 then (spec_LangNumOk.j0 k a0 t398 true) else (if t398 > 1 then (if 0<(a0.size:Int) then (spec_LangNumOk.j0 k a0 t398 ((bt a0 0) == 48)) else (none)) else (spec_LangNumOk.j0 k a0 t398 false)))))=some r:=h;clear h;replace H:=bd H;obtain ⟨t398,A2,H⟩:=H;have HC3:=am H;clear H;go_enter Tryz.func171,Tryz.ntmps171
 go_upto_region 2 with (first|(refine gL 9 Tryz.func268 #[.string a0,.int .i64 0] ?_;(with_reducible refine (spec_l11Run.calls k a0 0 t398 _ A2.out).mono ?_);rintro e w' ⟨rfl,⟨nd,rfl⟩⟩;refine ⟨_,rfl,?_⟩))
 (try simp only [Act.put,List.setIfInBounds_toArray,List.set_cons_zero,List.set_cons_succ])
 go_cut [25] (fun v25 wc=>∃ (kq:Nat) (x25_2:Bool),v25=.bool x25_2∧Aside0 (spec_LangNumOk.j0 kq a0 t398 x25_2=some r)∧Aside0 (kq≤k)∧Drawn0 w wc)
 case first=>
  have H:=HC3.out;clear HC3;replace H:=ii H;obtain ⟨c4,H⟩|⟨c4,H⟩:=H
  ·have c4b0:=decide_eq_true c4;have c4b1:decide (60<a0.size)=true:=decide_eq_true (by omega);clear c4
   (first|rw [c4b0]|(simp only [i64_w];rw [c4b0])|skip)
   have H':=am H;clear H;go_wp2
   go_meet
   case rel=>exact ⟨_,(true),xa,H',⟨by first|omega|exact Nat.le_refl _⟩,by repeat (first|exact Drawn0.refl _|apply Drawn0.step)⟩
  ·have c4b0:=decide_eq_false c4;have c4b1:decide (60<a0.size)=false:=decide_eq_false (by omega);clear c4
   (first|rw [c4b0]|(simp only [i64_w];rw [c4b0])|skip)
   replace H:=ii H;obtain ⟨c5,H⟩|⟨c5,H⟩:=H
   ·have c5b0:(t398 == 0)=true:=beq_iff_eq.mpr c5;have c5b1:(t398 != 0)=false:=bne_eq_false_iff_eq.mpr c5;clear c5;have H':=am H;clear H;go_wp2
    go_meet
    case rel=>exact ⟨_,(true),xa,H',⟨by first|omega|exact Nat.le_refl _⟩,by repeat (first|exact Drawn0.refl _|apply Drawn0.step)⟩
   ·have c5b0:(t398 == 0)=false:=beq_eq_false_iff_ne.mpr c5;have c5b1:(t398 != 0)=true:=bne_iff_ne.mpr c5;replace H:=ic H;obtain ⟨c6b0,H⟩|⟨c6b0,H⟩:=H
    ·replace H:=ii H;obtain ⟨c7,H⟩|⟨c7,H⟩:=H
     ·have c7b0:=decide_eq_true c7;have c7b1:decide (0<a0.size)=true:=decide_eq_true (by omega);clear c7;have H':=am H;clear H;have p8:0≤(0:Int):=(by omega);have q8:0<a0.size:=(by have:(0:Int)<(a0.size:Int):=od;omega);have hx8:∀ h:0<a0.size,((a0[0]'h).toNat:Int)=bt a0 0:=bt_at a0 0;clear p8;have qi8:(0<(a0.size:Int))=True:=eq_true od;replace q8:=eq_true q8;go_wp2
      go_meet
      case rel=>exact ⟨_,(((bt a0 0) == 48)),xa,H',⟨by first|omega|exact Nat.le_refl _⟩,by repeat (first|exact Drawn0.refl _|apply Drawn0.step)⟩
     ·exact absurd H (by simp)
    ·have H':=am H;clear H;go_wp2
     go_meet
     case rel=>exact ⟨_,(false),xa,H',⟨by first|omega|exact Nat.le_refl _⟩,by repeat (first|exact Drawn0.refl _|apply Drawn0.step)⟩
 case rest=>
  clear HC3;obtain ⟨kq,x25_2,rfl,HA,HJ2,⟨mc2,rfl⟩⟩:=hcut
  cases kq with
  | zero=>exact absurd HA.out (by simp [spec_LangNumOk.j0])
  | succ kj2=>
   have H:=HA.out;clear HA;simp only [spec_LangNumOk.j0] at H
   by_cases c9:x25_2=true
   ·subst c9;rw [if_pos rfl] at H;obtain rfl:=si H;go_wp2;go_ret;exact ⟨xa,xd⟩
   ·replace c9:=Bool.eq_false_iff.mpr c9;subst c9;rw [if_neg (show ¬ (false=true) by decide)] at H;have HC10:=am H;clear H
    go_upto_region 5 with (fail)
    go_cut [36] (fun v36 wc=>∃ (kq:Nat) (x36_9:Bool),v36=.bool x36_9∧Aside0 (spec_LangNumOk.j1 kq a0 t398 x36_9=some r)∧Aside0 (kq≤kj2)∧Drawn0 w wc)
    case first=>
     have H:=HC10.out;clear HC10;replace H:=ic H;obtain ⟨c11b0,H⟩|⟨c11b0,H⟩:=H
     ·(first|rw [c11b0]|(simp only [i64_w];rw [c11b0])|skip)
      replace H:=ii H;obtain ⟨c12,H⟩|⟨c12,H⟩:=H
      ·have c12b0:=decide_eq_true c12;clear c12;have H':=am H;clear H;obtain ⟨p13,q13,hx13⟩:=abt a0 t398;go_wp2
       go_meet
       case rel=>exact ⟨_,(((bt a0 t398) == 46)),xa,H',⟨by have:=HJ2.out;first|omega|exact Nat.le_refl _⟩,by repeat (first|exact Drawn0.refl _|apply Drawn0.step)⟩
      ·exact absurd H (by simp)
     ·(first|rw [c11b0]|(simp only [i64_w];rw [c11b0])|skip)
      have H':=am H;clear H;go_wp2
      go_meet
      case rel=>exact ⟨_,(false),xa,H',⟨by have:=HJ2.out;first|omega|exact Nat.le_refl _⟩,by repeat (first|exact Drawn0.refl _|apply Drawn0.step)⟩
    case rest=>
     clear HC10;obtain ⟨kq,x36_9,rfl,HA,HJ9,⟨mc9,rfl⟩⟩:=hcut
     cases kq with
     | zero=>exact absurd HA.out (by simp [spec_LangNumOk.j1])
     | succ kj9=>
      have H:=HA.out;clear HA;simp only [spec_LangNumOk.j1] at H;have HC14:=am H;clear H
      go_upto_if 36 with (fail)
      go_cut [4] (fun v4 wc=>∃ (kq:Nat) (x4_13:Int),v4=.int .i64 x4_13∧Aside0 (spec_LangNumOk.j2 kq a0 x4_13=some r)∧Aside0 (kq≤kj9)∧Drawn0 w wc)
      case first=>
       have H:=HC14.out;clear HC14
       by_cases c15:x36_9=true
       ·subst c15;rw [if_pos rfl] at H;replace H:=bd H;obtain ⟨t399,A16,H⟩:=H;replace H:=ii H;obtain ⟨c17,H⟩|⟨c17,H⟩:=H
        ·have c17b0:(t399 == 0)=true:=beq_iff_eq.mpr c17;have c17b1:(t399 != 0)=false:=bne_eq_false_iff_eq.mpr c17;clear c17
         (first|rw [c17b0]|(simp only [i64_w];rw [c17b0])|skip)
         obtain rfl:=si H;go_wp2_with (first|(refine gL 40 Tryz.func268 #[.string a0,.int .i64 (wrap64 (t398+1))] ?_;(with_reducible refine (spec_l11Run.calls kj9 a0 (wrap64 (t398+1)) t399 _ A16.out).mono ?_);rintro e w' ⟨rfl,⟨nd,rfl⟩⟩;refine ⟨_,rfl,?_⟩));go_ret;exact ⟨xa,xd⟩
        ·have c17b0:(t399 == 0)=false:=beq_eq_false_iff_ne.mpr c17;have c17b1:(t399 != 0)=true:=bne_iff_ne.mpr c17
         (first|rw [c17b0]|(simp only [i64_w];rw [c17b0])|skip)
         have H':=am H;clear H;go_wp2_with (first|(refine gL 40 Tryz.func268 #[.string a0,.int .i64 (wrap64 (t398+1))] ?_;(with_reducible refine (spec_l11Run.calls kj9 a0 (wrap64 (t398+1)) t399 _ A16.out).mono ?_);rintro e w' ⟨rfl,⟨nd,rfl⟩⟩;refine ⟨_,rfl,?_⟩))
         go_meet
         case rel=>exact ⟨_,(wrap64 ((wrap64 (t398+1))+t399)),xa,H',⟨by have:=HJ2.out;have:=HJ9.out;first|omega|exact Nat.le_refl _⟩,by repeat (first|exact Drawn0.refl _|apply Drawn0.step)⟩
       ·replace c15:=Bool.eq_false_iff.mpr c15;subst c15;rw [if_neg (show ¬ (false=true) by decide)] at H;have H':=am H;clear H;go_wp2
        go_meet
        case rel=>exact ⟨_,(t398),xa,H',⟨by have:=HJ2.out;have:=HJ9.out;first|omega|exact Nat.le_refl _⟩,by repeat (first|exact Drawn0.refl _|apply Drawn0.step)⟩
      case rest=>
       clear HC14;obtain ⟨kq,x4_13,rfl,HA,HJ13,⟨mc13,rfl⟩⟩:=hcut
       cases kq with
       | zero=>exact absurd HA.out (by simp [spec_LangNumOk.j2])
       | succ kj13=>
        have H:=HA.out;clear HA;simp only [spec_LangNumOk.j2] at H;have HC18:=am H;clear H
        go_upto_region 10 with (fail)
        go_cut [56] (fun v56 wc=>∃ (kq:Nat) (x56_17:Bool),v56=.bool x56_17∧Aside0 (spec_LangNumOk.j3 kq a0 x4_13 x56_17=some r)∧Aside0 (kq≤kj13)∧Drawn0 w wc)
        case first=>
         have H:=HC18.out;clear HC18;replace H:=ic H;obtain ⟨c19b0,H⟩|⟨c19b0,H⟩:=H
         ·(first|rw [c19b0]|(simp only [i64_w];rw [c19b0])|skip)
          replace H:=ii H;obtain ⟨c20,H⟩|⟨c20,H⟩:=H
          ·have c20b0:=decide_eq_true c20;clear c20;have H':=am H;clear H;obtain ⟨p21,q21,hx21⟩:=abt a0 x4_13;go_wp2
           go_meet
           case rel=>exact ⟨_,(((bt a0 x4_13) == 101)),xa,H',⟨by have:=HJ2.out;have:=HJ9.out;have:=HJ13.out;first|omega|exact Nat.le_refl _⟩,by repeat (first|exact Drawn0.refl _|apply Drawn0.step)⟩
          ·exact absurd H (by simp)
         ·(first|rw [c19b0]|(simp only [i64_w];rw [c19b0])|skip)
          have H':=am H;clear H;go_wp2
          go_meet
          case rel=>exact ⟨_,(false),xa,H',⟨by have:=HJ2.out;have:=HJ9.out;have:=HJ13.out;first|omega|exact Nat.le_refl _⟩,by repeat (first|exact Drawn0.refl _|apply Drawn0.step)⟩
        case rest=>
         clear HC18;obtain ⟨kq,x56_17,rfl,HA,HJ17,⟨mc17,rfl⟩⟩:=hcut
         cases kq with
         | zero=>exact absurd HA.out (by simp [spec_LangNumOk.j3])
         | succ kj17=>
          have H:=HA.out;clear HA;simp only [spec_LangNumOk.j3] at H
          by_cases c22:x56_17=true
          ·subst c22;rw [if_pos rfl] at H;have HC23:=am H;clear H
           go_upto_region 12 with (fail)
           go_cut [6] (fun v6 wc=>∃ (kq:Nat) (x6_22:Bool),v6=.bool x6_22∧Aside0 (spec_LangNumOk.j4 kq a0 (wrap64 (x4_13+1)) x6_22=some r)∧Aside0 (kq≤kj17)∧Drawn0 w wc)
           case first=>
            have H:=HC23.out;clear HC23;replace H:=ic H;obtain ⟨c24b0,H⟩|⟨c24b0,H⟩:=H
            ·(first|rw [c24b0]|(simp only [i64_w];rw [c24b0])|skip)
             obtain ⟨ji25,hji25⟩:∃ j_:Int,(wrap64 (x4_13+1))=j_:=⟨_,rfl⟩;replace H:(if 0≤(ji25) then (spec_LangNumOk.j4 kj17 a0 ji25 ((bt a0 (ji25)) == 45)) else (none))=some r:=by first|(rw [hji25] at H;exact H)|(simp only [hji25] at H ⊢;exact H)
             (try rw [hji25] at c24b0)
             have hji25w:(IntKind.i64.wrap (x4_13+1))=ji25:=(i64_w _).trans hji25;replace H:=ii H;obtain ⟨c26,H⟩|⟨c26,H⟩:=H
             ·have c26b0:=decide_eq_true c26;clear c26;have H':=am H;clear H;obtain ⟨p27,q27,hx27⟩:=abt a0 (ji25);go_wp2
              go_meet
              case rel=>exact ⟨_,(((bt a0 (ji25)) == 45)),(by first|rfl|(simp;done)|(simp only [← hji25] <;> (first|rfl|simp))|(simp [*];done)),(by first|exact H'|(simp only [hji25];exact H')),⟨by have:=HJ2.out;have:=HJ9.out;have:=HJ13.out;have:=HJ17.out;first|omega|exact Nat.le_refl _⟩,by repeat (first|exact Drawn0.refl _|apply Drawn0.step)⟩
             ·exact absurd H (by simp)
            ·(first|rw [c24b0]|(simp only [i64_w];rw [c24b0])|skip)
             have H':=am H;clear H;go_wp2
             go_meet
             case rel=>exact ⟨_,(false),xa,H',⟨by have:=HJ2.out;have:=HJ9.out;have:=HJ13.out;have:=HJ17.out;first|omega|exact Nat.le_refl _⟩,by repeat (first|exact Drawn0.refl _|apply Drawn0.step)⟩
           case rest=>
            clear HC23;obtain ⟨kq,x6_22,rfl,HA,HJ22,⟨mc22,rfl⟩⟩:=hcut
            cases kq with
            | zero=>exact absurd HA.out (by simp [spec_LangNumOk.j4])
            | succ kj22=>
             have H:=HA.out;clear HA;simp only [spec_LangNumOk.j4] at H
             by_cases c28:x6_22=true
             ·subst c28;rw [if_pos rfl] at H;replace H:=bd H;obtain ⟨t400,A29,H⟩:=H;replace H:=ii H;obtain ⟨c30,H⟩|⟨c30,H⟩:=H
              ·have c30b0:(t400 == 0)=true:=beq_iff_eq.mpr c30;have c30b1:(t400 != 0)=false:=bne_eq_false_iff_eq.mpr c30;clear c30;obtain rfl:=si H;go_wp2_with (first|(refine gL 74 Tryz.func268 #[.string a0,.int .i64 (wrap64 ((wrap64 (x4_13+1))+1))] ?_;(with_reducible refine (spec_l11Run.calls kj22 a0 (wrap64 ((wrap64 (x4_13+1))+1)) t400 _ A29.out).mono ?_);rintro e w' ⟨rfl,⟨nd,rfl⟩⟩;refine ⟨_,rfl,?_⟩));go_ret;exact ⟨xa,xd⟩
              ·have c30b0:(t400 == 0)=false:=beq_eq_false_iff_ne.mpr c30;have c30b1:(t400 != 0)=true:=bne_iff_ne.mpr c30;replace H:=ic H;obtain ⟨c31b0,H⟩|⟨c31b0,H⟩:=H
               ·obtain rfl:=si H;go_wp2_with (first|(refine gL 74 Tryz.func268 #[.string a0,.int .i64 (wrap64 ((wrap64 (x4_13+1))+1))] ?_;(with_reducible refine (spec_l11Run.calls kj22 a0 (wrap64 ((wrap64 (x4_13+1))+1)) t400 _ A29.out).mono ?_);rintro e w' ⟨rfl,⟨nd,rfl⟩⟩;refine ⟨_,rfl,?_⟩));go_ret;exact ⟨xa,xd⟩
               ·obtain ⟨ji32,hji32⟩:∃ j_:Int,(wrap64 ((wrap64 (x4_13+1))+1))=j_:=⟨_,rfl⟩;replace H:(if 0≤(ji32) then (if (ji32)<(a0.size:Int) then (if (bt a0 (ji32))=48 then (if t400 > 1 then (some false) else (some false)) else (if t400=3 then (if (ji32)≤(wrap64 ((ji32)+t400)) then (if (wrap64 ((ji32)+t400))≤(a0.size:Int) then (if (Op.bytesLess ([52,48,48]:List UInt8) ((a0.extract ((ji32):Int).toNat ((wrap64 ((ji32)+t400)):Int).toNat).toList))=true then (some false) else (some ((wrap64 ((ji32)+t400)) == (a0.size:Int)))) else (none)) else (none)) else (some ((wrap64 ((ji32)+t400)) == (a0.size:Int))))) else (none)) else (none))=some r:=by first|(rw [hji32] at H;exact H)|(simp only [hji32] at H ⊢;exact H)
                (try rw [hji32] at A29)
                have hji32w:(IntKind.i64.wrap ((wrap64 (x4_13+1))+1))=ji32:=(i64_w _).trans hji32;replace H:=ii H;obtain ⟨c33,H⟩|⟨c33,H⟩:=H
                ·have c33b0:=decide_eq_true c33;clear c33;replace H:=ii H;obtain ⟨c34,H⟩|⟨c34,H⟩:=H
                 ·have c34b0:=decide_eq_true c34;clear c34;replace H:=ii H;obtain ⟨c36,H⟩|⟨c36,H⟩:=H
                  ·have c36b0:((bt a0 (ji32)) == 48)=true:=beq_iff_eq.mpr c36;have c36b1:((bt a0 (ji32)) != 48)=false:=bne_eq_false_iff_eq.mpr c36;clear c36;replace H:=ic H;obtain ⟨c37b0,H⟩|⟨c37b0,H⟩:=H
                   ·obtain rfl:=si H;go_wp2_with (first|((with_reducible refine gate_callee (f:=268) rfl ?_);refine goesL_ (some 74) rfl rfl Tryz.func268 (by kernel_rfl) rfl #[.string a0,.int .i64 ji32] rfl (by (try simp only [List.map_toArray,List.map_cons,List.map_nil]);first|done|(simp only [hji32];rfl)|rfl|(simp only [List.length_drop,List.length_take];rfl)) ?_;(with_reducible refine (spec_l11Run.calls kj22 a0 ji32 t400 _ A29.out).mono ?_);rintro e w' ⟨rfl,⟨nd,rfl⟩⟩;refine ⟨_,rfl,?_⟩;have p35:0≤((ji32):Int):=od;have q35:(ji32)<(a0.size:Int):=od;have hx35:=bt_at a0 (ji32);replace p35:=eq_true p35;replace q35:=eq_true q35));go_ret;exact ⟨by first|rfl|(simp;done)|(simp only [← hji32] <;> (first|rfl|simp))|(simp [*];done),by repeat (first|exact Drawn0.refl _|apply Drawn0.step)⟩
                   ·obtain rfl:=si H;go_wp2_with (first|((with_reducible refine gate_callee (f:=268) rfl ?_);refine goesL_ (some 74) rfl rfl Tryz.func268 (by kernel_rfl) rfl #[.string a0,.int .i64 ji32] rfl (by (try simp only [List.map_toArray,List.map_cons,List.map_nil]);first|done|(simp only [hji32];rfl)|rfl|(simp only [List.length_drop,List.length_take];rfl)) ?_;(with_reducible refine (spec_l11Run.calls kj22 a0 ji32 t400 _ A29.out).mono ?_);rintro e w' ⟨rfl,⟨nd,rfl⟩⟩;refine ⟨_,rfl,?_⟩;have p35:0≤((ji32):Int):=od;have q35:(ji32)<(a0.size:Int):=od;have hx35:=bt_at a0 (ji32);replace p35:=eq_true p35;replace q35:=eq_true q35));go_ret;exact ⟨by first|rfl|(simp;done)|(simp only [← hji32] <;> (first|rfl|simp))|(simp [*];done),by repeat (first|exact Drawn0.refl _|apply Drawn0.step)⟩
                  ·have c36b0:((bt a0 (ji32)) == 48)=false:=beq_eq_false_iff_ne.mpr c36;have c36b1:((bt a0 (ji32)) != 48)=true:=bne_iff_ne.mpr c36;replace H:=ii H;obtain ⟨c38,H⟩|⟨c38,H⟩:=H
                   ·have c38b0:(t400 == 3)=true:=beq_iff_eq.mpr c38;have c38b1:(t400 != 3)=false:=bne_eq_false_iff_eq.mpr c38;clear c38;have c39b0:=eq_true (od:0≤(ji32));replace H:=ii H;obtain ⟨c40,H⟩|⟨c40,H⟩:=H
                    ·have c40b0:=eq_true c40;have c40b1:=decide_eq_true c40;replace H:=ii H;obtain ⟨c41,H⟩|⟨c41,H⟩:=H
                     ·have c41b0:=eq_true c41;have c41b1:=decide_eq_true c41;replace H:=ii H;obtain ⟨c42,H⟩|⟨c42,H⟩:=H
                      ·have c42b0:(Op.bytesLess ([52,48,48]:List UInt8) ((a0.extract ((ji32):Int).toNat ((wrap64 ((ji32)+t400)):Int).toNat).toList))=true:=c42;clear c42;obtain rfl:=si H;go_wp2_with (first|((with_reducible refine gate_callee (f:=268) rfl ?_);refine goesL_ (some 74) rfl rfl Tryz.func268 (by kernel_rfl) rfl #[.string a0,.int .i64 ji32] rfl (by (try simp only [List.map_toArray,List.map_cons,List.map_nil]);first|done|(simp only [hji32];rfl)|rfl|(simp only [List.length_drop,List.length_take];rfl)) ?_;(with_reducible refine (spec_l11Run.calls kj22 a0 ji32 t400 _ A29.out).mono ?_);rintro e w' ⟨rfl,⟨nd,rfl⟩⟩;refine ⟨_,rfl,?_⟩;have p35:0≤((ji32):Int):=od;have q35:(ji32)<(a0.size:Int):=od;have hx35:=bt_at a0 (ji32);replace p35:=eq_true p35;replace q35:=eq_true q35));go_ret;exact ⟨by first|rfl|(simp;done)|(simp only [← hji32] <;> (first|rfl|simp))|(simp [*];done),by repeat (first|exact Drawn0.refl _|apply Drawn0.step)⟩
                      ·have c42b0:(Op.bytesLess ([52,48,48]:List UInt8) ((a0.extract ((ji32):Int).toNat ((wrap64 ((ji32)+t400)):Int).toNat).toList))=false:=by simpa using c42
                       clear c42;obtain rfl:=si H;go_wp2_with (first|((with_reducible refine gate_callee (f:=268) rfl ?_);refine goesL_ (some 74) rfl rfl Tryz.func268 (by kernel_rfl) rfl #[.string a0,.int .i64 ji32] rfl (by (try simp only [List.map_toArray,List.map_cons,List.map_nil]);first|done|(simp only [hji32];rfl)|rfl|(simp only [List.length_drop,List.length_take];rfl)) ?_;(with_reducible refine (spec_l11Run.calls kj22 a0 ji32 t400 _ A29.out).mono ?_);rintro e w' ⟨rfl,⟨nd,rfl⟩⟩;refine ⟨_,rfl,?_⟩;have p35:0≤((ji32):Int):=od;have q35:(ji32)<(a0.size:Int):=od;have hx35:=bt_at a0 (ji32);replace p35:=eq_true p35;replace q35:=eq_true q35));go_ret;exact ⟨by first|rfl|(simp;done)|(simp only [← hji32] <;> (first|rfl|simp))|(simp [*];done),by repeat (first|exact Drawn0.refl _|apply Drawn0.step)⟩
                     ·exact absurd H (by simp)
                    ·exact absurd H (by simp)
                   ·have c38b0:(t400 == 3)=false:=beq_eq_false_iff_ne.mpr c38;have c38b1:(t400 != 3)=true:=bne_iff_ne.mpr c38;obtain rfl:=si H;go_wp2_with (first|((with_reducible refine gate_callee (f:=268) rfl ?_);refine goesL_ (some 74) rfl rfl Tryz.func268 (by kernel_rfl) rfl #[.string a0,.int .i64 ji32] rfl (by (try simp only [List.map_toArray,List.map_cons,List.map_nil]);first|done|(simp only [hji32];rfl)|rfl|(simp only [List.length_drop,List.length_take];rfl)) ?_;(with_reducible refine (spec_l11Run.calls kj22 a0 ji32 t400 _ A29.out).mono ?_);rintro e w' ⟨rfl,⟨nd,rfl⟩⟩;refine ⟨_,rfl,?_⟩;have p35:0≤((ji32):Int):=od;have q35:(ji32)<(a0.size:Int):=od;have hx35:=bt_at a0 (ji32);replace p35:=eq_true p35;replace q35:=eq_true q35));go_ret;exact ⟨by first|rfl|(simp;done)|(simp only [← hji32] <;> (first|rfl|simp))|(simp [*];done),by repeat (first|exact Drawn0.refl _|apply Drawn0.step)⟩
                 ·exact absurd H (by simp)
                ·exact absurd H (by simp)
             ·replace c28:=Bool.eq_false_iff.mpr c28;subst c28;rw [if_neg (show ¬ (false=true) by decide)] at H;replace H:=bd H;obtain ⟨t401,A43,H⟩:=H;replace H:=ii H;obtain ⟨c44,H⟩|⟨c44,H⟩:=H
              ·have c44b0:(t401 == 0)=true:=beq_iff_eq.mpr c44;have c44b1:(t401 != 0)=false:=bne_eq_false_iff_eq.mpr c44;clear c44;obtain rfl:=si H;go_wp2_with (first|(refine gL 74 Tryz.func268 #[.string a0,.int .i64 (wrap64 (x4_13+1))] ?_;(with_reducible refine (spec_l11Run.calls kj22 a0 (wrap64 (x4_13+1)) t401 _ A43.out).mono ?_);rintro e w' ⟨rfl,⟨nd,rfl⟩⟩;refine ⟨_,rfl,?_⟩));go_ret;exact ⟨xa,xd⟩
              ·have c44b0:(t401 == 0)=false:=beq_eq_false_iff_ne.mpr c44;have c44b1:(t401 != 0)=true:=bne_iff_ne.mpr c44;replace H:=ic H;obtain ⟨c45b0,H⟩|⟨c45b0,H⟩:=H
               ·obtain rfl:=si H;go_wp2_with (first|(refine gL 74 Tryz.func268 #[.string a0,.int .i64 (wrap64 (x4_13+1))] ?_;(with_reducible refine (spec_l11Run.calls kj22 a0 (wrap64 (x4_13+1)) t401 _ A43.out).mono ?_);rintro e w' ⟨rfl,⟨nd,rfl⟩⟩;refine ⟨_,rfl,?_⟩));go_ret;exact ⟨xa,xd⟩
               ·obtain ⟨ji46,hji46⟩:∃ j_:Int,(wrap64 (x4_13+1))=j_:=⟨_,rfl⟩;replace H:(if 0≤(ji46) then (if (ji46)<(a0.size:Int) then (if (bt a0 (ji46))=48 then (if t401 > 1 then (some false) else (if t401=3 then (if (ji46)≤(wrap64 ((ji46)+t401)) then (if (wrap64 ((ji46)+t401))≤(a0.size:Int) then (if (Op.bytesLess ([52,48,48]:List UInt8) ((a0.extract ((ji46):Int).toNat ((wrap64 ((ji46)+t401)):Int).toNat).toList))=true then (some false) else (some ((wrap64 ((ji46)+t401)) == (a0.size:Int)))) else (none)) else (none)) else (some ((wrap64 ((ji46)+t401)) == (a0.size:Int))))) else (if t401=3 then (if (ji46)≤(wrap64 ((ji46)+t401)) then (if (wrap64 ((ji46)+t401))≤(a0.size:Int) then (if (Op.bytesLess ([52,48,48]:List UInt8) ((a0.extract ((ji46):Int).toNat ((wrap64 ((ji46)+t401)):Int).toNat).toList))=true then (some false) else (some ((wrap64 ((ji46)+t401)) == (a0.size:Int)))) else (none)) else (none)) else (some ((wrap64 ((ji46)+t401)) == (a0.size:Int))))) else (none)) else (none))=some r:=by first|(rw [hji46] at H;exact H)|(simp only [hji46] at H ⊢;exact H)
                (try rw [hji46] at A43)
                have hji46w:(IntKind.i64.wrap (x4_13+1))=ji46:=(i64_w _).trans hji46;replace H:=ii H;obtain ⟨c47,H⟩|⟨c47,H⟩:=H
                ·have c47b0:=decide_eq_true c47;clear c47;replace H:=ii H;obtain ⟨c48,H⟩|⟨c48,H⟩:=H
                 ·have c48b0:=decide_eq_true c48;clear c48;replace H:=ii H;obtain ⟨c50,H⟩|⟨c50,H⟩:=H
                  ·have c50b0:((bt a0 (ji46)) == 48)=true:=beq_iff_eq.mpr c50;have c50b1:((bt a0 (ji46)) != 48)=false:=bne_eq_false_iff_eq.mpr c50;clear c50;replace H:=ic H;obtain ⟨c51b0,H⟩|⟨c51b0,H⟩:=H
                   ·obtain rfl:=si H;go_wp2_with (first|((with_reducible refine gate_callee (f:=268) rfl ?_);refine goesL_ (some 74) rfl rfl Tryz.func268 (by kernel_rfl) rfl #[.string a0,.int .i64 (ji46)] rfl (by (try simp only [List.map_toArray,List.map_cons,List.map_nil]);first|done|(simp only [hji46];rfl)|rfl|(simp only [List.length_drop,List.length_take];rfl)) ?_;(with_reducible refine (spec_l11Run.calls kj22 a0 (ji46) t401 _ A43.out).mono ?_);rintro e w' ⟨rfl,⟨nd,rfl⟩⟩;refine ⟨_,rfl,?_⟩;have p49:0≤((ji46):Int):=od;have q49:(ji46)<(a0.size:Int):=od;have hx49:=bt_at a0 (ji46);replace p49:=eq_true p49;replace q49:=eq_true q49));go_ret;exact ⟨by first|rfl|(simp;done)|(simp only [← hji46] <;> (first|rfl|simp))|(simp [*];done),by repeat (first|exact Drawn0.refl _|apply Drawn0.step)⟩
                   ·replace H:=ii H;obtain ⟨c52,H⟩|⟨c52,H⟩:=H
                    ·have c52b0:(t401 == 3)=true:=beq_iff_eq.mpr c52;have c52b1:(t401 != 3)=false:=bne_eq_false_iff_eq.mpr c52;clear c52;have c53b0:=eq_true (od:0≤(ji46));replace H:=ii H;obtain ⟨c54,H⟩|⟨c54,H⟩:=H
                     ·have c54b0:=eq_true c54;have c54b1:=decide_eq_true c54;replace H:=ii H;obtain ⟨c55,H⟩|⟨c55,H⟩:=H
                      ·have c55b0:=eq_true c55;have c55b1:=decide_eq_true c55;replace H:=ii H;obtain ⟨c56,H⟩|⟨c56,H⟩:=H
                       ·have c56b0:(Op.bytesLess ([52,48,48]:List UInt8) ((a0.extract ((ji46):Int).toNat ((wrap64 ((ji46)+t401)):Int).toNat).toList))=true:=c56;clear c56;obtain rfl:=si H;go_wp2_with (first|((with_reducible refine gate_callee (f:=268) rfl ?_);refine goesL_ (some 74) rfl rfl Tryz.func268 (by kernel_rfl) rfl #[.string a0,.int .i64 (ji46)] rfl (by (try simp only [List.map_toArray,List.map_cons,List.map_nil]);first|done|(simp only [hji46];rfl)|rfl|(simp only [List.length_drop,List.length_take];rfl)) ?_;(with_reducible refine (spec_l11Run.calls kj22 a0 (ji46) t401 _ A43.out).mono ?_);rintro e w' ⟨rfl,⟨nd,rfl⟩⟩;refine ⟨_,rfl,?_⟩;have p49:0≤((ji46):Int):=od;have q49:(ji46)<(a0.size:Int):=od;have hx49:=bt_at a0 (ji46);replace p49:=eq_true p49;replace q49:=eq_true q49));go_ret;exact ⟨by first|rfl|(simp;done)|(simp only [← hji46] <;> (first|rfl|simp))|(simp [*];done),by repeat (first|exact Drawn0.refl _|apply Drawn0.step)⟩
                       ·have c56b0:(Op.bytesLess ([52,48,48]:List UInt8) ((a0.extract ((ji46):Int).toNat ((wrap64 ((ji46)+t401)):Int).toNat).toList))=false:=by simpa using c56
                        clear c56;obtain rfl:=si H;go_wp2_with (first|((with_reducible refine gate_callee (f:=268) rfl ?_);refine goesL_ (some 74) rfl rfl Tryz.func268 (by kernel_rfl) rfl #[.string a0,.int .i64 (ji46)] rfl (by (try simp only [List.map_toArray,List.map_cons,List.map_nil]);first|done|(simp only [hji46];rfl)|rfl|(simp only [List.length_drop,List.length_take];rfl)) ?_;(with_reducible refine (spec_l11Run.calls kj22 a0 (ji46) t401 _ A43.out).mono ?_);rintro e w' ⟨rfl,⟨nd,rfl⟩⟩;refine ⟨_,rfl,?_⟩;have p49:0≤((ji46):Int):=od;have q49:(ji46)<(a0.size:Int):=od;have hx49:=bt_at a0 (ji46);replace p49:=eq_true p49;replace q49:=eq_true q49));go_ret;exact ⟨by first|rfl|(simp;done)|(simp only [← hji46] <;> (first|rfl|simp))|(simp [*];done),by repeat (first|exact Drawn0.refl _|apply Drawn0.step)⟩
                      ·exact absurd H (by simp)
                     ·exact absurd H (by simp)
                    ·have c52b0:(t401 == 3)=false:=beq_eq_false_iff_ne.mpr c52;have c52b1:(t401 != 3)=true:=bne_iff_ne.mpr c52;obtain rfl:=si H;go_wp2_with (first|((with_reducible refine gate_callee (f:=268) rfl ?_);refine goesL_ (some 74) rfl rfl Tryz.func268 (by kernel_rfl) rfl #[.string a0,.int .i64 (ji46)] rfl (by (try simp only [List.map_toArray,List.map_cons,List.map_nil]);first|done|(simp only [hji46];rfl)|rfl|(simp only [List.length_drop,List.length_take];rfl)) ?_;(with_reducible refine (spec_l11Run.calls kj22 a0 (ji46) t401 _ A43.out).mono ?_);rintro e w' ⟨rfl,⟨nd,rfl⟩⟩;refine ⟨_,rfl,?_⟩;have p49:0≤((ji46):Int):=od;have q49:(ji46)<(a0.size:Int):=od;have hx49:=bt_at a0 (ji46);replace p49:=eq_true p49;replace q49:=eq_true q49));go_ret;exact ⟨by first|rfl|(simp;done)|(simp only [← hji46] <;> (first|rfl|simp))|(simp [*];done),by repeat (first|exact Drawn0.refl _|apply Drawn0.step)⟩
                  ·have c50b0:((bt a0 (ji46)) == 48)=false:=beq_eq_false_iff_ne.mpr c50;have c50b1:((bt a0 (ji46)) != 48)=true:=bne_iff_ne.mpr c50;replace H:=ii H;obtain ⟨c57,H⟩|⟨c57,H⟩:=H
                   ·have c57b0:(t401 == 3)=true:=beq_iff_eq.mpr c57;have c57b1:(t401 != 3)=false:=bne_eq_false_iff_eq.mpr c57;clear c57;have c58b0:=eq_true (od:0≤(ji46));replace H:=ii H;obtain ⟨c59,H⟩|⟨c59,H⟩:=H
                    ·have c59b0:=eq_true c59;have c59b1:=decide_eq_true c59;replace H:=ii H;obtain ⟨c60,H⟩|⟨c60,H⟩:=H
                     ·have c60b0:=eq_true c60;have c60b1:=decide_eq_true c60;replace H:=ii H;obtain ⟨c61,H⟩|⟨c61,H⟩:=H
                      ·have c61b0:(Op.bytesLess ([52,48,48]:List UInt8) ((a0.extract ((ji46):Int).toNat ((wrap64 ((ji46)+t401)):Int).toNat).toList))=true:=c61;clear c61;obtain rfl:=si H;go_wp2_with (first|((with_reducible refine gate_callee (f:=268) rfl ?_);refine goesL_ (some 74) rfl rfl Tryz.func268 (by kernel_rfl) rfl #[.string a0,.int .i64 (ji46)] rfl (by (try simp only [List.map_toArray,List.map_cons,List.map_nil]);first|done|(simp only [hji46];rfl)|rfl|(simp only [List.length_drop,List.length_take];rfl)) ?_;(with_reducible refine (spec_l11Run.calls kj22 a0 (ji46) t401 _ A43.out).mono ?_);rintro e w' ⟨rfl,⟨nd,rfl⟩⟩;refine ⟨_,rfl,?_⟩;have p49:0≤((ji46):Int):=od;have q49:(ji46)<(a0.size:Int):=od;have hx49:=bt_at a0 (ji46);replace p49:=eq_true p49;replace q49:=eq_true q49));go_ret;exact ⟨by first|rfl|(simp;done)|(simp only [← hji46] <;> (first|rfl|simp))|(simp [*];done),by repeat (first|exact Drawn0.refl _|apply Drawn0.step)⟩
                      ·have c61b0:(Op.bytesLess ([52,48,48]:List UInt8) ((a0.extract ((ji46):Int).toNat ((wrap64 ((ji46)+t401)):Int).toNat).toList))=false:=by simpa using c61
                       clear c61;obtain rfl:=si H;go_wp2_with (first|((with_reducible refine gate_callee (f:=268) rfl ?_);refine goesL_ (some 74) rfl rfl Tryz.func268 (by kernel_rfl) rfl #[.string a0,.int .i64 (ji46)] rfl (by (try simp only [List.map_toArray,List.map_cons,List.map_nil]);first|done|(simp only [hji46];rfl)|rfl|(simp only [List.length_drop,List.length_take];rfl)) ?_;(with_reducible refine (spec_l11Run.calls kj22 a0 (ji46) t401 _ A43.out).mono ?_);rintro e w' ⟨rfl,⟨nd,rfl⟩⟩;refine ⟨_,rfl,?_⟩;have p49:0≤((ji46):Int):=od;have q49:(ji46)<(a0.size:Int):=od;have hx49:=bt_at a0 (ji46);replace p49:=eq_true p49;replace q49:=eq_true q49));go_ret;exact ⟨by first|rfl|(simp;done)|(simp only [← hji46] <;> (first|rfl|simp))|(simp [*];done),by repeat (first|exact Drawn0.refl _|apply Drawn0.step)⟩
                     ·exact absurd H (by simp)
                    ·exact absurd H (by simp)
                   ·have c57b0:(t401 == 3)=false:=beq_eq_false_iff_ne.mpr c57;have c57b1:(t401 != 3)=true:=bne_iff_ne.mpr c57;obtain rfl:=si H;go_wp2_with (first|((with_reducible refine gate_callee (f:=268) rfl ?_);refine goesL_ (some 74) rfl rfl Tryz.func268 (by kernel_rfl) rfl #[.string a0,.int .i64 (ji46)] rfl (by (try simp only [List.map_toArray,List.map_cons,List.map_nil]);first|done|(simp only [hji46];rfl)|rfl|(simp only [List.length_drop,List.length_take];rfl)) ?_;(with_reducible refine (spec_l11Run.calls kj22 a0 (ji46) t401 _ A43.out).mono ?_);rintro e w' ⟨rfl,⟨nd,rfl⟩⟩;refine ⟨_,rfl,?_⟩;have p49:0≤((ji46):Int):=od;have q49:(ji46)<(a0.size:Int):=od;have hx49:=bt_at a0 (ji46);replace p49:=eq_true p49;replace q49:=eq_true q49));go_ret;exact ⟨by first|rfl|(simp;done)|(simp only [← hji46] <;> (first|rfl|simp))|(simp [*];done),by repeat (first|exact Drawn0.refl _|apply Drawn0.step)⟩
                 ·exact absurd H (by simp)
                ·exact absurd H (by simp)
          ·replace c22:=Bool.eq_false_iff.mpr c22;subst c22;rw [if_neg (show ¬ (false=true) by decide)] at H;obtain rfl:=si H;go_wp2;go_ret;exact ⟨xa,xd⟩
end Go.Proofs.YtbahacapnaohcaaGreatDoor.PB
