import Derived.Test.YtbahacapnaohcaaGreatDoorA1
set_option linter.unusedVariables false
set_option linter.unusedSimpArgs false
namespace Go.Proofs.YtbahacapnaohcaaGreatDoor.PB
open Go.RowKit Go.Proofs.YtbahacapnaohcaaGreatDoorW.PrintWords Go.Proofs.YtbahacapnaohcaaGreatDoorW.PrintLast Go.Proofs.YtbahacapnaohcaaGreatDoorW.PrintMore
def spec_l11Letter.f (a0:Int):Option (Bool):=if a0≥97 then (some (decide (a0≤122))) else (some false)
set_option maxHeartbeats 8000000 in
set_option maxRecDepth 100000 in
theorem spec_l11Letter.calls (a0:Int) (r:Bool) (w:World) (h:spec_l11Letter.f a0=some r) :
 Calls Tryz.prog 168 #[.int .u8 a0] w fun e w'=>e=.returned (.bool r)∧Drawn0 w w':=by
 have H:(if a0≥97 then (some (decide (a0≤122))) else (some false))=some r:=h;clear h;replace H:=ic H;obtain ⟨c2b0,H⟩|⟨c2b0,H⟩:=H
 ·obtain rfl:=si H;go_enter Tryz.func168,Tryz.ntmps168;go_wp2;go_ret;exact ⟨xa,xd⟩
 ·obtain rfl:=si H;go_enter Tryz.func168,Tryz.ntmps168;go_wp2;go_ret;exact ⟨xa,xd⟩
def spec_l11Digit.f (a0:Int):Option (Bool):=if a0≥48 then (some (decide (a0≤57))) else (some false)
set_option maxHeartbeats 8000000 in
set_option maxRecDepth 100000 in
theorem spec_l11Digit.calls (a0:Int) (r:Bool) (w:World) (h:spec_l11Digit.f a0=some r) :
 Calls Tryz.prog 169 #[.int .u8 a0] w fun e w'=>e=.returned (.bool r)∧Drawn0 w w':=by
 have H:(if a0≥48 then (some (decide (a0≤57))) else (some false))=some r:=h;clear h;replace H:=ic H;obtain ⟨c2b0,H⟩|⟨c2b0,H⟩:=H
 ·obtain rfl:=si H;go_enter Tryz.func169,Tryz.ntmps169;go_wp2;go_ret;exact ⟨xa,xd⟩
 ·obtain rfl:=si H;go_enter Tryz.func169,Tryz.ntmps169;go_wp2;go_ret;exact ⟨xa,xd⟩
mutual
def spec_l11Plain.j0:Nat→ByteArray→Bool→Option (Bool)
 | 0,_,_=>none
 | k+1,x0,x17=>if x17=true then (some false) else (spec_l11Plain.l0 k x0 1)
def spec_l11Plain.l0:Nat→ByteArray→Int→Option (Bool)
 | 0,_,_=>none
 | k+1,x0,x3=>if x3<(x0.size:Int) then (if 0≤x3 then ((spec_l11Letter.f (bt x0 x3)).bind fun t146=>(if t146=true then (spec_l11Plain.l0 k x0 (wrap64 (x3+1))) else ((spec_l11Digit.f (bt x0 x3)).bind fun t147=>(if t147=true then (spec_l11Plain.l0 k x0 (wrap64 (x3+1))) else (some false))))) else (none)) else (some true)
end
def spec_l11Plain.f (k:Nat) (a0:ByteArray):Option (Bool):=if (a0.size:Int)<1 then (spec_l11Plain.j0 k a0 true) else (if (a0.size:Int) > 8 then (spec_l11Plain.j0 k a0 true) else (if 0<(a0.size:Int) then ((spec_l11Letter.f (bt a0 0)).bind fun t145=>(spec_l11Plain.j0 k a0 (!t145))) else (none)))
set_option maxHeartbeats 8000000 in
set_option maxRecDepth 100000 in
theorem spec_l11Plain.calls (k:Nat) (a0:ByteArray) (r:Bool) (w:World) (h:spec_l11Plain.f k a0=some r) :
 Calls Tryz.prog 172 #[.string a0] w fun e w'=>e=.returned (.bool r)∧Drawn0 w w':=by
 have H:(if (a0.size:Int)<1 then (spec_l11Plain.j0 k a0 true) else (if (a0.size:Int) > 8 then (spec_l11Plain.j0 k a0 true) else (if 0<(a0.size:Int) then ((spec_l11Letter.f (bt a0 0)).bind fun t145=>(spec_l11Plain.j0 k a0 (!t145))) else (none))))=some r:=h;clear h;have HC2:=am H;clear H;go_enter Tryz.func172,Tryz.ntmps172
 go_upto_region 1 with (fail)
 go_cut [17] (fun v17 wc=>∃ (kq:Nat) (x17_1:Bool),v17=.bool x17_1∧Aside0 (spec_l11Plain.j0 kq a0 x17_1=some r)∧Aside0 (kq≤k)∧Drawn0 w wc)
 case first=>
  have H:=HC2.out;clear HC2;replace H:=ii H;obtain ⟨c3,H⟩|⟨c3,H⟩:=H
  ·have c3b0:=decide_eq_true c3;have c3b1:decide (a0.size<1)=true:=decide_eq_true (by omega);clear c3
   (first|rw [c3b0]|(simp only [i64_w];rw [c3b0])|skip)
   have H':=am H;clear H;go_wp2
   go_meet
   case rel=>exact ⟨_,(true),xa,H',⟨by first|omega|exact Nat.le_refl _⟩,by repeat (first|exact Drawn0.refl _|apply Drawn0.step)⟩
  ·have c3b0:=decide_eq_false c3;have c3b1:decide (a0.size<1)=false:=decide_eq_false (by omega);clear c3
   (first|rw [c3b0]|(simp only [i64_w];rw [c3b0])|skip)
   replace H:=ii H;obtain ⟨c4,H⟩|⟨c4,H⟩:=H
   ·have c4b0:=decide_eq_true c4;have c4b1:decide (8<a0.size)=true:=decide_eq_true (by omega);clear c4;have H':=am H;clear H;go_wp2
    go_meet
    case rel=>exact ⟨_,(true),xa,H',⟨by first|omega|exact Nat.le_refl _⟩,by repeat (first|exact Drawn0.refl _|apply Drawn0.step)⟩
   ·have c4b0:=decide_eq_false c4;have c4b1:decide (8<a0.size)=false:=decide_eq_false (by omega);clear c4;replace H:=ii H;obtain ⟨c5,H⟩|⟨c5,H⟩:=H
    ·have c5b0:=decide_eq_true c5;have c5b1:decide (0<a0.size)=true:=decide_eq_true (by omega);clear c5;replace H:=bd H;obtain ⟨t145,A7,H⟩:=H;have H':=am H;clear H;have p6:0≤(0:Int):=(by omega);have q6:0<a0.size:=(by have:(0:Int)<(a0.size:Int):=od;omega);have hx6:∀ h:0<a0.size,((a0[0]'h).toNat:Int)=bt a0 0:=bt_at a0 0;clear p6;have qi6:(0<(a0.size:Int))=True:=eq_true od;replace q6:=eq_true q6;go_wp2_with (first|(go_at_call 168;(with_reducible refine (spec_l11Letter.calls (bt a0 0) t145 _ A7.out).mono ?_);rintro e w' ⟨rfl,⟨nd,rfl⟩⟩))
     go_meet
     case rel=>exact ⟨_,(!t145),xa,H',⟨by first|omega|exact Nat.le_refl _⟩,by repeat (first|exact Drawn0.refl _|apply Drawn0.step)⟩
    ·exact absurd H (by simp)
 case rest=>
  clear HC2;obtain ⟨kq,x17_1,rfl,HA,HJ1,⟨mc1,rfl⟩⟩:=hcut
  cases kq with
  | zero=>exact absurd HA.out (by simp [spec_l11Plain.j0])
  | succ kj1=>
   have H:=HA.out;clear HA;simp only [spec_l11Plain.j0] at H
   by_cases c8:x17_1=true
   ·subst c8;rw [if_pos rfl] at H;obtain rfl:=si H;go_wp2;go_ret;exact ⟨xa,xd⟩
   ·replace c8:=Bool.eq_false_iff.mpr c8;subst c8;rw [if_neg (show ¬ (false=true) by decide)] at H;have H':=am H;clear H;go_wp2
    go_loopg [3] kj1 (fun kq v3 w'=>∃ (x3_2:Int),v3=.int .i64 x3_2∧Aside0 (spec_l11Plain.l0 kq a0 x3_2=some r)∧Aside0 (kq≤kj1)∧Drawn0 w w')
    case atStart=>exact ⟨(1),xa,H',⟨Nat.le_refl _⟩,by repeat (first|exact Drawn0.refl _|apply Drawn0.step)⟩
    case round=>
     clear H';obtain ⟨x3_2,rfl,HA,HK2,⟨m2,rfl⟩⟩:=hrel
     cases gk with
     | zero=>exact absurd HA.out (by simp [spec_l11Plain.l0])
     | succ k2=>
      have H:=HA.out;clear HA;simp only [spec_l11Plain.l0] at H;replace H:=ic H;obtain ⟨c9b0,H⟩|⟨c9b0,H⟩:=H
      ·replace H:=ii H;obtain ⟨c10,H⟩|⟨c10,H⟩:=H
       ·have c10b0:=decide_eq_true c10;clear c10;replace H:=bd H;obtain ⟨t146,A12,H⟩:=H
        by_cases c13:t146=true
        ·subst c13;rw [if_pos rfl] at H;have H':=am H;clear H;obtain ⟨p11,q11,hx11⟩:=abt a0 x3_2;go_wp2_with (first|(refine gL 27 Tryz.func168 #[.int .u8 (bt a0 x3_2)] ?_;(with_reducible refine (spec_l11Letter.calls (bt a0 x3_2) true _ A12.out).mono ?_);rintro e w' ⟨rfl,⟨nd,rfl⟩⟩;refine ⟨_,rfl,?_⟩))
         go_roundg k2
         case measure=>have:=HJ1.out;have:=HK2.out;omega
         case rel=>exact ⟨(wrap64 (x3_2+1)),xa,H',⟨by have:=HJ1.out;have:=HK2.out;omega⟩,by repeat (first|exact Drawn0.refl _|apply Drawn0.step)⟩
        ·replace c13:=Bool.eq_false_iff.mpr c13;subst c13;rw [if_neg (show ¬ (false=true) by decide)] at H;replace H:=bd H;obtain ⟨t147,A15,H⟩:=H
         by_cases c16:t147=true
         ·subst c16;rw [if_pos rfl] at H;have H':=am H;clear H;obtain ⟨p11,q11,hx11⟩:=abt a0 x3_2;go_wp2_with (first|(refine gL 27 Tryz.func168 #[.int .u8 (bt a0 x3_2)] ?_;(with_reducible refine (spec_l11Letter.calls (bt a0 x3_2) false _ A12.out).mono ?_);rintro e w' ⟨rfl,⟨nd,rfl⟩⟩;refine ⟨_,rfl,?_⟩;have p14:0≤(x3_2:Int):=od;have q14:x3_2<(a0.size:Int):=od;have hx14:=bt_at a0 x3_2;replace p14:=eq_true p14;replace q14:=eq_true q14)|(go_at_call 169;(with_reducible refine (spec_l11Digit.calls (bt a0 x3_2) true _ A15.out).mono ?_);rintro e w' ⟨rfl,⟨nd,rfl⟩⟩))
          go_roundg k2
          case measure=>have:=HJ1.out;have:=HK2.out;omega
          case rel=>exact ⟨(wrap64 (x3_2+1)),xa,H',⟨by have:=HJ1.out;have:=HK2.out;omega⟩,by repeat (first|exact Drawn0.refl _|apply Drawn0.step)⟩
         ·replace c16:=Bool.eq_false_iff.mpr c16;subst c16;rw [if_neg (show ¬ (false=true) by decide)] at H;obtain rfl:=si H;obtain ⟨p11,q11,hx11⟩:=abt a0 x3_2;go_wp2_with (first|(refine gL 27 Tryz.func168 #[.int .u8 (bt a0 x3_2)] ?_;(with_reducible refine (spec_l11Letter.calls (bt a0 x3_2) false _ A12.out).mono ?_);rintro e w' ⟨rfl,⟨nd,rfl⟩⟩;refine ⟨_,rfl,?_⟩;have p14:0≤(x3_2:Int):=od;have q14:x3_2<(a0.size:Int):=od;have hx14:=bt_at a0 x3_2;replace p14:=eq_true p14;replace q14:=eq_true q14)|(go_at_call 169;(with_reducible refine (spec_l11Digit.calls (bt a0 x3_2) false _ A15.out).mono ?_);rintro e w' ⟨rfl,⟨nd,rfl⟩⟩));go_ret;exact ⟨xa,xd⟩
       ·exact absurd H (by simp)
      ·obtain rfl:=si H;go_wp2;go_ret;exact ⟨xa,xd⟩
def spec_l11Word.f (a0:ByteArray):Option (Bool):=if a0.toList=([100,101,102]:List UInt8) then (some true) else (if a0.toList=([118,97,114]:List UInt8) then (some true) else (if a0.toList=([115,113,114,116]:List UInt8) then (some true) else (if a0.toList=([97,98,115]:List UInt8) then (some true) else (if a0.toList=([109,105,110]:List UInt8) then (some true) else (some (a0.toList == ([109,97,120]:List UInt8)))))))
set_option maxHeartbeats 8000000 in
set_option maxRecDepth 100000 in
theorem spec_l11Word.calls (a0:ByteArray) (r:Bool) (w:World) (h:spec_l11Word.f a0=some r) :
 Calls Tryz.prog 189 #[.string a0] w fun e w'=>e=.returned (.bool r)∧Drawn0 w w':=by
 have H:(if a0.toList=([100,101,102]:List UInt8) then (some true) else (if a0.toList=([118,97,114]:List UInt8) then (some true) else (if a0.toList=([115,113,114,116]:List UInt8) then (some true) else (if a0.toList=([97,98,115]:List UInt8) then (some true) else (if a0.toList=([109,105,110]:List UInt8) then (some true) else (some (a0.toList == ([109,97,120]:List UInt8))))))))=some r:=h;clear h;replace H:=ii H;obtain ⟨c2,H⟩|⟨c2,H⟩:=H
 ·have c2b0:(a0.toList == ([100,101,102]:List UInt8))=true:=beq_iff_eq.mpr c2;have c2b1:(a0.toList != ([100,101,102]:List UInt8))=false:=bne_eq_false_iff_eq.mpr c2;clear c2;obtain rfl:=si H;go_enter Tryz.func189,Tryz.ntmps189;go_wp2;go_ret;exact ⟨xa,xd⟩
 ·have c2b0:(a0.toList == ([100,101,102]:List UInt8))=false:=beq_eq_false_iff_ne.mpr c2;have c2b1:(a0.toList != ([100,101,102]:List UInt8))=true:=bne_iff_ne.mpr c2;replace H:=ii H;obtain ⟨c3,H⟩|⟨c3,H⟩:=H
  ·have c3b0:(a0.toList == ([118,97,114]:List UInt8))=true:=beq_iff_eq.mpr c3;have c3b1:(a0.toList != ([118,97,114]:List UInt8))=false:=bne_eq_false_iff_eq.mpr c3;clear c3;obtain rfl:=si H;go_enter Tryz.func189,Tryz.ntmps189;go_wp2;go_ret;exact ⟨xa,xd⟩
  ·have c3b0:(a0.toList == ([118,97,114]:List UInt8))=false:=beq_eq_false_iff_ne.mpr c3;have c3b1:(a0.toList != ([118,97,114]:List UInt8))=true:=bne_iff_ne.mpr c3;replace H:=ii H;obtain ⟨c4,H⟩|⟨c4,H⟩:=H
   ·have c4b0:(a0.toList == ([115,113,114,116]:List UInt8))=true:=beq_iff_eq.mpr c4;have c4b1:(a0.toList != ([115,113,114,116]:List UInt8))=false:=bne_eq_false_iff_eq.mpr c4;clear c4;obtain rfl:=si H;go_enter Tryz.func189,Tryz.ntmps189;go_wp2;go_ret;exact ⟨xa,xd⟩
   ·have c4b0:(a0.toList == ([115,113,114,116]:List UInt8))=false:=beq_eq_false_iff_ne.mpr c4;have c4b1:(a0.toList != ([115,113,114,116]:List UInt8))=true:=bne_iff_ne.mpr c4;replace H:=ii H;obtain ⟨c5,H⟩|⟨c5,H⟩:=H
    ·have c5b0:(a0.toList == ([97,98,115]:List UInt8))=true:=beq_iff_eq.mpr c5;have c5b1:(a0.toList != ([97,98,115]:List UInt8))=false:=bne_eq_false_iff_eq.mpr c5;clear c5;obtain rfl:=si H;go_enter Tryz.func189,Tryz.ntmps189;go_wp2;go_ret;exact ⟨xa,xd⟩
    ·have c5b0:(a0.toList == ([97,98,115]:List UInt8))=false:=beq_eq_false_iff_ne.mpr c5;have c5b1:(a0.toList != ([97,98,115]:List UInt8))=true:=bne_iff_ne.mpr c5;replace H:=ii H;obtain ⟨c6,H⟩|⟨c6,H⟩:=H
     ·have c6b0:(a0.toList == ([109,105,110]:List UInt8))=true:=beq_iff_eq.mpr c6;have c6b1:(a0.toList != ([109,105,110]:List UInt8))=false:=bne_eq_false_iff_eq.mpr c6;clear c6;obtain rfl:=si H;go_enter Tryz.func189,Tryz.ntmps189;go_wp2;go_ret;exact ⟨xa,xd⟩
     ·have c6b0:(a0.toList == ([109,105,110]:List UInt8))=false:=beq_eq_false_iff_ne.mpr c6;have c6b1:(a0.toList != ([109,105,110]:List UInt8))=true:=bne_iff_ne.mpr c6;obtain rfl:=si H;go_enter Tryz.func189,Tryz.ntmps189;go_wp2;go_ret;exact ⟨xa,xd⟩
def spec_LangNameOk.f (k:Nat) (a0:ByteArray):Option (Bool):=(spec_l11Plain.f k a0).bind fun t148=>(if t148=true then ((spec_l11Word.f a0).bind fun t149=>(some (!t149))) else (some false))
set_option maxHeartbeats 8000000 in
set_option maxRecDepth 100000 in
theorem spec_LangNameOk.calls (k:Nat) (a0:ByteArray) (r:Bool) (w:World) (h:spec_LangNameOk.f k a0=some r) :
 Calls Tryz.prog 84 #[.string a0] w fun e w'=>e=.returned (.bool r)∧Drawn0 w w':=by
 have H:((spec_l11Plain.f k a0).bind fun t148=>(if t148=true then ((spec_l11Word.f a0).bind fun t149=>(some (!t149))) else (some false)))=some r:=h;clear h;replace H:=bd H;obtain ⟨t148,A2,H⟩:=H
 by_cases c3:t148=true
 ·subst c3;rw [if_pos rfl] at H;replace H:=bd H;obtain ⟨t149,A4,H⟩:=H;obtain rfl:=si H;go_enter Tryz.func84,Tryz.ntmps84;go_wp2_with (first|(refine gL 4 Tryz.func172 #[.string a0] ?_;(with_reducible refine (spec_l11Plain.calls k a0 true _ A2.out).mono ?_);rintro e w' ⟨rfl,⟨nd,rfl⟩⟩;refine ⟨_,rfl,?_⟩)|(go_at_call 189;(with_reducible refine (spec_l11Word.calls a0 t149 _ A4.out).mono ?_);rintro e w' ⟨rfl,⟨nd,rfl⟩⟩));go_ret;exact ⟨xa,xd⟩
 ·replace c3:=Bool.eq_false_iff.mpr c3;subst c3;rw [if_neg (show ¬ (false=true) by decide)] at H;obtain rfl:=si H;go_enter Tryz.func84,Tryz.ntmps84;go_wp2_with (first|(refine gL 4 Tryz.func172 #[.string a0] ?_;(with_reducible refine (spec_l11Plain.calls k a0 false _ A2.out).mono ?_);rintro e w' ⟨rfl,⟨nd,rfl⟩⟩;refine ⟨_,rfl,?_⟩));go_ret;exact ⟨xa,xd⟩
def spec_l11Run.l0:Nat→ByteArray→Int→Int→Option (Int)
 | 0,_,_,_=>none
 | k+1,x0,x1,x5=>if (wrap64 (x1+x5))<(x0.size:Int) then (if 0≤(wrap64 (x1+x5)) then ((spec_l11Digit.f (bt x0 (wrap64 (x1+x5)))).bind fun t150=>(if t150=true then (spec_l11Run.l0 k x0 x1 (wrap64 (x5+1))) else (some x5))) else (none)) else (some x5)
def spec_l11Run.f (k:Nat) (a0:ByteArray) (a1:Int):Option (Int):=spec_l11Run.l0 k a0 a1 0
set_option maxHeartbeats 8000000 in
set_option maxRecDepth 100000 in
theorem spec_l11Run.calls (k:Nat) (a0:ByteArray) (a1:Int) (r:Int) (w:World) (h:spec_l11Run.f k a0 a1=some r) :
 Calls Tryz.prog 268 #[.string a0,.int .i64 a1] w fun e w'=>e=.returned (.int .i64 r)∧Drawn0 w w':=by
 have H:(spec_l11Run.l0 k a0 a1 0)=some r:=h;clear h;have H':=am H;clear H;go_enter Tryz.func268,Tryz.ntmps268;go_wp2
 go_loopg [5] k (fun kq v5 w'=>∃ (x5_1:Int),v5=.int .i64 x5_1∧Aside0 (spec_l11Run.l0 kq a0 a1 x5_1=some r)∧Aside0 (kq≤k)∧Drawn0 w w')
 case atStart=>exact ⟨(0),xa,H',⟨Nat.le_refl _⟩,by repeat (first|exact Drawn0.refl _|apply Drawn0.step)⟩
 case round=>
  clear H';obtain ⟨x5_1,rfl,HA,HK1,⟨m1,rfl⟩⟩:=hrel
  cases gk with
  | zero=>exact absurd HA.out (by simp [spec_l11Run.l0])
  | succ k1=>
   have H:=HA.out;clear HA;simp only [spec_l11Run.l0] at H;replace H:=ic H;obtain ⟨c3b0,H⟩|⟨c3b0,H⟩:=H
   ·obtain ⟨ji4,hji4⟩:∃ j_:Int,(wrap64 (a1+x5_1))=j_:=⟨_,rfl⟩;replace H:(if 0≤(ji4) then ((spec_l11Digit.f (bt a0 (ji4))).bind fun t150=>(if t150=true then (spec_l11Run.l0 k1 a0 a1 (wrap64 (x5_1+1))) else (some x5_1))) else (none))=some r:=by first|(rw [hji4] at H;exact H)|(simp only [hji4] at H ⊢;exact H)
    (try rw [hji4] at c3b0)
    have hji4w:(IntKind.i64.wrap (a1+x5_1))=ji4:=(i64_w _).trans hji4;replace H:=ii H;obtain ⟨c5,H⟩|⟨c5,H⟩:=H
    ·have c5b0:=decide_eq_true c5;clear c5;replace H:=bd H;obtain ⟨t150,A7,H⟩:=H
     by_cases c8:t150=true
     ·subst c8;rw [if_pos rfl] at H;have H':=am H;clear H;obtain ⟨p6,q6,hx6⟩:=abt a0 (ji4);go_wp2_with (first|(go_at_call 169;(with_reducible refine (spec_l11Digit.calls (bt a0 (ji4)) true _ A7.out).mono ?_);rintro e w' ⟨rfl,⟨nd,rfl⟩⟩))
      go_roundg k1
      case measure=>have:=HK1.out;omega
      case rel=>exact ⟨(wrap64 (x5_1+1)),xa,H',⟨by have:=HK1.out;omega⟩,by repeat (first|exact Drawn0.refl _|apply Drawn0.step)⟩
     ·replace c8:=Bool.eq_false_iff.mpr c8;subst c8;rw [if_neg (show ¬ (false=true) by decide)] at H;obtain rfl:=si H;obtain ⟨p6,q6,hx6⟩:=abt a0 (ji4);go_wp2_with (first|(go_at_call 169;(with_reducible refine (spec_l11Digit.calls (bt a0 (ji4)) false _ A7.out).mono ?_);rintro e w' ⟨rfl,⟨nd,rfl⟩⟩));go_ret;exact ⟨by first|rfl|(simp;done)|(simp only [← hji4] <;> (first|rfl|simp))|(simp [*];done),by repeat (first|exact Drawn0.refl _|apply Drawn0.step)⟩
    ·exact absurd H (by simp)
   ·obtain rfl:=si H;go_wp2;go_ret;exact ⟨xa,xd⟩
end Go.Proofs.YtbahacapnaohcaaGreatDoor.PB
