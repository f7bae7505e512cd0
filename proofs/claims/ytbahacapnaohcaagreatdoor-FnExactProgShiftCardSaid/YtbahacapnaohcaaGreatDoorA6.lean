import Derived.Test.YtbahacapnaohcaaGreatDoorA1
set_option linter.unusedVariables false
set_option linter.unusedSimpArgs false
namespace Go.Proofs.YtbahacapnaohcaaGreatDoor.PB
open Go.RowKit Go.Proofs.YtbahacapnaohcaaGreatDoorW.PrintWords Go.Proofs.YtbahacapnaohcaaGreatDoorW.PrintLast Go.Proofs.YtbahacapnaohcaaGreatDoorW.PrintMore
def slices_Index_string_string.l0:Nat→List ByteArray→ByteArray→Int→Int→Option (Int)
 | 0,_,_,_,_=>none
 | k+1,x0,x1,x7,x8=>if x8<x7 then (if 0≤x8 then (if x8<(x0.length:Int) then (if x1.toList=(rdOf ByteArray.empty x0 x8).toList then (some x8) else (slices_Index_string_string.l0 k x0 x1 x7 (wrap64 (x8+1)))) else (none)) else (none)) else (some (-1))
def slices_Index_string_string.f (k:Nat) (l0:List ByteArray) (a1:ByteArray):Option (Int):=slices_Index_string_string.l0 k l0 a1 (l0.length:Int) 0
set_option maxHeartbeats 8000000 in
set_option maxRecDepth 100000 in
theorem slices_Index_string_string.calls (k:Nat) (A0:Option Addr) (c0:Nat) (l0:List ByteArray) (a1:ByteArray) (r:Int) (w:World) (hr0:Kd.C Kd.string w A0 l0.length l0) (hc0:l0.length≤c0) (h:slices_Index_string_string.f k l0 a1=some r) :
 Calls Tryz.prog 77 #[.slice A0 l0.length c0,.string a1] w fun e w'=>e=.returned (.int .i64 r)∧Drawn0 w w':=by
 obtain ⟨HR0,HC0⟩:=hd2 hr0 hc0;clear hr0 hc0;have H:(slices_Index_string_string.l0 k l0 a1 (l0.length:Int) 0)=some r:=h;clear h;have H':=am H;clear H;go_enter Tryz.func77,Tryz.ntmps77;go_wp2
 go_loopg [8] k (fun kq v8 w'=>∃ (x8_1:Int),v8=.int .i64 x8_1∧Aside0 (slices_Index_string_string.l0 kq l0 a1 (l0.length:Int) x8_1=some r)∧Aside0 (kq≤k)∧Drawn0 w w')
 case atStart=>exact ⟨(0),xa,H',⟨Nat.le_refl _⟩,by repeat (first|exact Drawn0.refl _|apply Drawn0.step)⟩
 case round=>
  clear H';obtain ⟨x8_1,rfl,HA,HK1,⟨m1,rfl⟩⟩:=hrel
  cases gk with
  | zero=>exact absurd HA.out (by simp [slices_Index_string_string.l0])
  | succ k1=>
   have H:=HA.out;clear HA;simp only [slices_Index_string_string.l0] at H;replace H:=ic H;obtain ⟨c3b0,H⟩|⟨c3b0,H⟩:=H
   ·replace H:=ii H;obtain ⟨c4,H⟩|⟨c4,H⟩:=H
    ·have c4b0:=decide_eq_true c4;clear c4;replace H:=ii H;obtain ⟨c5,H⟩|⟨c5,H⟩:=H
     ·have c5b0:=decide_eq_true c5;clear c5;replace H:=ii H;obtain ⟨c6,H⟩|⟨c6,H⟩:=H
      ·have c6b0:(a1.toList == (rdOf ByteArray.empty l0 x8_1).toList)=true:=beq_iff_eq.mpr c6;have c6b1:(a1.toList != (rdOf ByteArray.empty l0 x8_1).toList)=false:=bne_eq_false_iff_eq.mpr c6;clear c6;obtain rfl:=si H;have p260:0≤(x8_1:Int):=od;have q260:x8_1<(l0.length:Int):=od;obtain ⟨ad260,e260,hx260_0⟩:=Kd.at_string HR0.out x8_1 p260 q260;cases e260;replace p260:=eq_true p260;replace q260:=eq_true q260;go_wp2;go_ret;exact ⟨xa,xd⟩
      ·have c6b0:(a1.toList == (rdOf ByteArray.empty l0 x8_1).toList)=false:=beq_eq_false_iff_ne.mpr c6;have c6b1:(a1.toList != (rdOf ByteArray.empty l0 x8_1).toList)=true:=bne_iff_ne.mpr c6;have H':=am H;clear H;have p260:0≤(x8_1:Int):=od;have q260:x8_1<(l0.length:Int):=od;obtain ⟨ad260,e260,hx260_0⟩:=Kd.at_string HR0.out x8_1 p260 q260;cases e260;replace p260:=eq_true p260;replace q260:=eq_true q260;go_wp2
       go_roundg k1
       case measure=>have:=HK1.out;omega
       case rel=>exact ⟨(wrap64 (x8_1+1)),xa,H',⟨by have:=HK1.out;omega⟩,by repeat (first|exact Drawn0.refl _|apply Drawn0.step)⟩
     ·exact absurd H (by simp)
    ·exact absurd H (by simp)
   ·obtain rfl:=si H;go_wp2;go_ret;exact ⟨xa,xd⟩
def slices_Contains_string_string.f (k:Nat) (l0:List ByteArray) (a1:ByteArray):Option (Bool):=(slices_Index_string_string.f k l0 a1).bind fun t261=>(some (decide (t261≥0)))
set_option maxHeartbeats 8000000 in
set_option maxRecDepth 100000 in
theorem slices_Contains_string_string.calls (k:Nat) (A0:Option Addr) (c0:Nat) (l0:List ByteArray) (a1:ByteArray) (r:Bool) (w:World) (hr0:Kd.C Kd.string w A0 l0.length l0) (hc0:l0.length≤c0) (h:slices_Contains_string_string.f k l0 a1=some r) :
 Calls Tryz.prog 79 #[.slice A0 l0.length c0,.string a1] w fun e w'=>e=.returned (.bool r)∧Drawn0 w w':=by
 obtain ⟨HR0,HC0⟩:=hd2 hr0 hc0;clear hr0 hc0;have H:((slices_Index_string_string.f k l0 a1).bind fun t261=>(some (decide (t261≥0))))=some r:=h;clear h;replace H:=bd H;obtain ⟨t261,A3,H⟩:=H;obtain rfl:=si H;go_enter Tryz.func79,Tryz.ntmps79;go_wp2_with (first|(refine gL 7 Tryz.func77 #[.slice A0 l0.length c0,.string a1] ?_;(with_reducible refine (slices_Index_string_string.calls k _ _ l0 a1 t261 _ ?side1 ?side2 A3.out).mono ?_);(case side1=>repeat (first|exact HR0.out|(with_reducible refine Kd.C_alloc ?_ _)|(with_reducible refine Kd.C_drewN ?_ _)|(with_reducible refine Kd.C_drew ?_)));(case side2=>exact HC0.out);rintro e w' ⟨rfl,⟨nd,rfl⟩⟩;refine ⟨_,rfl,?_⟩));go_ret;exact ⟨xa,xd⟩
def impl_in.f (a0:Int) (a1:Int) (a2:Int):Option (Bool):=if a0≥a1 then (some (decide (a0≤a2))) else (some false)
set_option maxHeartbeats 8000000 in
set_option maxRecDepth 100000 in
theorem impl_in.calls (a0:Int) (a1:Int) (a2:Int) (r:Bool) (w:World) (h:impl_in.f a0 a1 a2=some r) :
 Calls Tryz.prog 94 #[.int .i64 a0,.int .i64 a1,.int .i64 a2] w fun e w'=>e=.returned (.bool r)∧Drawn0 w w':=by
 have H:(if a0≥a1 then (some (decide (a0≤a2))) else (some false))=some r:=h;clear h;replace H:=ic H;obtain ⟨c4b0,H⟩|⟨c4b0,H⟩:=H
 ·obtain rfl:=si H;go_enter Tryz.func94,Tryz.ntmps94;go_wp2;go_ret;exact ⟨xa,xd⟩
 ·obtain rfl:=si H;go_enter Tryz.func94,Tryz.ntmps94;go_wp2;go_ret;exact ⟨xa,xd⟩
def impl_isLetter.f (a0:Int):Option (Bool):=if a0≥97 then (some (decide (a0≤122))) else (some false)
set_option maxHeartbeats 8000000 in
set_option maxRecDepth 100000 in
theorem impl_isLetter.calls (a0:Int) (r:Bool) (w:World) (h:impl_isLetter.f a0=some r) :
 Calls Tryz.prog 176 #[.int .u8 a0] w fun e w'=>e=.returned (.bool r)∧Drawn0 w w':=by
 have H:(if a0≥97 then (some (decide (a0≤122))) else (some false))=some r:=h;clear h;replace H:=ic H;obtain ⟨c2b0,H⟩|⟨c2b0,H⟩:=H
 ·obtain rfl:=si H;go_enter Tryz.func176,Tryz.ntmps176;go_wp2;go_ret;exact ⟨xa,xd⟩
 ·obtain rfl:=si H;go_enter Tryz.func176,Tryz.ntmps176;go_wp2;go_ret;exact ⟨xa,xd⟩
def impl_isFigure.f (a0:Int):Option (Bool):=if a0≥48 then (some (decide (a0≤57))) else (some false)
set_option maxHeartbeats 8000000 in
set_option maxRecDepth 100000 in
theorem impl_isFigure.calls (a0:Int) (r:Bool) (w:World) (h:impl_isFigure.f a0=some r) :
 Calls Tryz.prog 177 #[.int .u8 a0] w fun e w'=>e=.returned (.bool r)∧Drawn0 w w':=by
 have H:(if a0≥48 then (some (decide (a0≤57))) else (some false))=some r:=h;clear h;replace H:=ic H;obtain ⟨c2b0,H⟩|⟨c2b0,H⟩:=H
 ·obtain rfl:=si H;go_enter Tryz.func177,Tryz.ntmps177;go_wp2;go_ret;exact ⟨xa,xd⟩
 ·obtain rfl:=si H;go_enter Tryz.func177,Tryz.ntmps177;go_wp2;go_ret;exact ⟨xa,xd⟩
def impl_wordOk.l0:Nat→ByteArray→Int→Int→Option (Bool)
 | 0,_,_,_=>none
 | k+1,x0,x5,x6=>if x6<x5 then (if 0≤x6 then (if x6<(x0.size:Int) then ((impl_isLetter.f (bt x0 x6)).bind fun t264=>(if t264=true then (impl_wordOk.l0 k x0 x5 (wrap64 (x6+1))) else ((impl_isFigure.f (bt x0 x6)).bind fun t265=>(if t265=true then (impl_wordOk.l0 k x0 x5 (wrap64 (x6+1))) else (some false))))) else (none)) else (none)) else ((impl_in.f (x0.size:Int) 1 8).bind fun t262=>(if t262=true then (if 0<(x0.size:Int) then ((impl_isLetter.f (bt x0 0)).bind fun t263=>(some t263)) else (none)) else (some false)))
def impl_wordOk.f (k:Nat) (a0:ByteArray):Option (Bool):=impl_wordOk.l0 k a0 (a0.size:Int) 0
set_option maxHeartbeats 8000000 in
set_option maxRecDepth 100000 in
theorem impl_wordOk.calls (k:Nat) (a0:ByteArray) (r:Bool) (w:World) (h:impl_wordOk.f k a0=some r) :
 Calls Tryz.prog 180 #[.string a0] w fun e w'=>e=.returned (.bool r)∧Drawn0 w w':=by
 have H:(impl_wordOk.l0 k a0 (a0.size:Int) 0)=some r:=h;clear h;have H':=am H;clear H;go_enter Tryz.func180,Tryz.ntmps180;go_wp2
 go_loopg [6] k (fun kq v6 w'=>∃ (x6_1:Int),v6=.int .i64 x6_1∧Aside0 (impl_wordOk.l0 kq a0 (a0.size:Int) x6_1=some r)∧Aside0 (kq≤k)∧Drawn0 w w')
 case atStart=>exact ⟨(0),xa,H',⟨Nat.le_refl _⟩,by repeat (first|exact Drawn0.refl _|apply Drawn0.step)⟩
 case round=>
  clear H';obtain ⟨x6_1,rfl,HA,HK1,⟨m1,rfl⟩⟩:=hrel
  cases gk with
  | zero=>exact absurd HA.out (by simp [impl_wordOk.l0])
  | succ k1=>
   have H:=HA.out;clear HA;simp only [impl_wordOk.l0] at H;replace H:=ic H;obtain ⟨c2b0,H⟩|⟨c2b0,H⟩:=H
   ·replace H:=ii H;obtain ⟨c3,H⟩|⟨c3,H⟩:=H
    ·have c3b0:=decide_eq_true c3;clear c3;replace H:=ii H;obtain ⟨c4,H⟩|⟨c4,H⟩:=H
     ·have c4b0:=decide_eq_true c4;clear c4;replace H:=bd H;obtain ⟨t264,A6,H⟩:=H
      by_cases c7:t264=true
      ·subst c7;rw [if_pos rfl] at H;have H':=am H;clear H;obtain ⟨p5,q5,hx5⟩:=abt a0 x6_1;go_wp2_with (first|(refine gL 12 Tryz.func176 #[.int .u8 (bt a0 x6_1)] ?_;(with_reducible refine (impl_isLetter.calls (bt a0 x6_1) true _ A6.out).mono ?_);rintro e w' ⟨rfl,⟨nd,rfl⟩⟩;refine ⟨_,rfl,?_⟩))
       go_roundg k1
       case measure=>have:=HK1.out;omega
       case rel=>exact ⟨(wrap64 (x6_1+1)),xa,H',⟨by have:=HK1.out;omega⟩,by repeat (first|exact Drawn0.refl _|apply Drawn0.step)⟩
      ·replace c7:=Bool.eq_false_iff.mpr c7;subst c7;rw [if_neg (show ¬ (false=true) by decide)] at H;replace H:=bd H;obtain ⟨t265,A9,H⟩:=H
       by_cases c10:t265=true
       ·subst c10;rw [if_pos rfl] at H;have H':=am H;clear H;obtain ⟨p5,q5,hx5⟩:=abt a0 x6_1;go_wp2_with (first|(refine gL 12 Tryz.func176 #[.int .u8 (bt a0 x6_1)] ?_;(with_reducible refine (impl_isLetter.calls (bt a0 x6_1) false _ A6.out).mono ?_);rintro e w' ⟨rfl,⟨nd,rfl⟩⟩;refine ⟨_,rfl,?_⟩;have p8:0≤(x6_1:Int):=od;have q8:x6_1<(a0.size:Int):=od;have hx8:=bt_at a0 x6_1;replace p8:=eq_true p8;replace q8:=eq_true q8)|(go_at_call 177;(with_reducible refine (impl_isFigure.calls (bt a0 x6_1) true _ A9.out).mono ?_);rintro e w' ⟨rfl,⟨nd,rfl⟩⟩))
        go_roundg k1
        case measure=>have:=HK1.out;omega
        case rel=>exact ⟨(wrap64 (x6_1+1)),xa,H',⟨by have:=HK1.out;omega⟩,by repeat (first|exact Drawn0.refl _|apply Drawn0.step)⟩
       ·replace c10:=Bool.eq_false_iff.mpr c10;subst c10;rw [if_neg (show ¬ (false=true) by decide)] at H;obtain rfl:=si H;obtain ⟨p5,q5,hx5⟩:=abt a0 x6_1;go_wp2_with (first|(refine gL 12 Tryz.func176 #[.int .u8 (bt a0 x6_1)] ?_;(with_reducible refine (impl_isLetter.calls (bt a0 x6_1) false _ A6.out).mono ?_);rintro e w' ⟨rfl,⟨nd,rfl⟩⟩;refine ⟨_,rfl,?_⟩;have p8:0≤(x6_1:Int):=od;have q8:x6_1<(a0.size:Int):=od;have hx8:=bt_at a0 x6_1;replace p8:=eq_true p8;replace q8:=eq_true q8)|(go_at_call 177;(with_reducible refine (impl_isFigure.calls (bt a0 x6_1) false _ A9.out).mono ?_);rintro e w' ⟨rfl,⟨nd,rfl⟩⟩));go_ret;exact ⟨xa,xd⟩
     ·exact absurd H (by simp)
    ·exact absurd H (by simp)
   ·replace H:=bd H;obtain ⟨t262,A11,H⟩:=H
    by_cases c12:t262=true
    ·subst c12;rw [if_pos rfl] at H;replace H:=ii H;obtain ⟨c13,H⟩|⟨c13,H⟩:=H
     ·have c13b0:=decide_eq_true c13;have c13b1:decide (0<a0.size)=true:=decide_eq_true (by omega);clear c13;replace H:=bd H;obtain ⟨t263,A15,H⟩:=H;obtain rfl:=si H;go_wp2_with (first|(refine gL 24 Tryz.func94 #[.int .i64 (a0.size:Int),.int .i64 1,.int .i64 8] ?_;(with_reducible refine (impl_in.calls (a0.size:Int) 1 8 true _ A11.out).mono ?_);rintro e w' ⟨rfl,⟨nd,rfl⟩⟩;refine ⟨_,rfl,?_⟩;have p14:0≤(0:Int):=(by omega);have q14:0<a0.size:=(by have:(0:Int)<(a0.size:Int):=od;omega);have hx14:∀ h:0<a0.size,((a0[0]'h).toNat:Int)=bt a0 0:=bt_at a0 0;clear p14;have qi14:(0<(a0.size:Int))=True:=eq_true od;replace q14:=eq_true q14)|(go_at_call 176;(with_reducible refine (impl_isLetter.calls (bt a0 0) t263 _ A15.out).mono ?_);rintro e w' ⟨rfl,⟨nd,rfl⟩⟩));go_ret;exact ⟨xa,xd⟩
     ·exact absurd H (by simp)
    ·replace c12:=Bool.eq_false_iff.mpr c12;subst c12;rw [if_neg (show ¬ (false=true) by decide)] at H;obtain rfl:=si H;go_wp2_with (first|(refine gL 24 Tryz.func94 #[.int .i64 (a0.size:Int),.int .i64 1,.int .i64 8] ?_;(with_reducible refine (impl_in.calls (a0.size:Int) 1 8 false _ A11.out).mono ?_);rintro e w' ⟨rfl,⟨nd,rfl⟩⟩;refine ⟨_,rfl,?_⟩));go_ret;exact ⟨xa,xd⟩
def impl_isDigits.l0:Nat→ByteArray→Int→Int→Option (Bool)
 | 0,_,_,_=>none
 | k+1,x0,x5,x6=>if x6<x5 then (if 0≤x6 then (if x6<(x0.size:Int) then (if (bt x0 x6)<48 then (some false) else (if (bt x0 x6) > 57 then (some false) else (impl_isDigits.l0 k x0 x5 (wrap64 (x6+1))))) else (none)) else (none)) else (some (x0.toList != ([]:List UInt8)))
def impl_isDigits.f (k:Nat) (a0:ByteArray):Option (Bool):=impl_isDigits.l0 k a0 (a0.size:Int) 0
set_option maxHeartbeats 8000000 in
set_option maxRecDepth 100000 in
theorem impl_isDigits.calls (k:Nat) (a0:ByteArray) (r:Bool) (w:World) (h:impl_isDigits.f k a0=some r) :
 Calls Tryz.prog 342 #[.string a0] w fun e w'=>e=.returned (.bool r)∧Drawn0 w w':=by
 have H:(impl_isDigits.l0 k a0 (a0.size:Int) 0)=some r:=h;clear h;have H':=am H;clear H;go_enter Tryz.func342,Tryz.ntmps342;go_wp2
 go_loopg [6] k (fun kq v6 w'=>∃ (x6_1:Int),v6=.int .i64 x6_1∧Aside0 (impl_isDigits.l0 kq a0 (a0.size:Int) x6_1=some r)∧Aside0 (kq≤k)∧Drawn0 w w')
 case atStart=>exact ⟨(0),xa,H',⟨Nat.le_refl _⟩,by repeat (first|exact Drawn0.refl _|apply Drawn0.step)⟩
 case round=>
  clear H';obtain ⟨x6_1,rfl,HA,HK1,⟨m1,rfl⟩⟩:=hrel
  cases gk with
  | zero=>exact absurd HA.out (by simp [impl_isDigits.l0])
  | succ k1=>
   have H:=HA.out;clear HA;simp only [impl_isDigits.l0] at H;replace H:=ic H;obtain ⟨c2b0,H⟩|⟨c2b0,H⟩:=H
   ·replace H:=ii H;obtain ⟨c3,H⟩|⟨c3,H⟩:=H
    ·have c3b0:=decide_eq_true c3;clear c3;replace H:=ii H;obtain ⟨c4,H⟩|⟨c4,H⟩:=H
     ·have c4b0:=decide_eq_true c4;clear c4;replace H:=ic H;obtain ⟨c6b0,H⟩|⟨c6b0,H⟩:=H
      ·obtain rfl:=si H;obtain ⟨p5,q5,hx5⟩:=abt a0 x6_1;go_wp2;go_ret;exact ⟨xa,xd⟩
      ·replace H:=ic H;obtain ⟨c8b0,H⟩|⟨c8b0,H⟩:=H
       ·obtain rfl:=si H;obtain ⟨p5,q5,hx5⟩:=abt a0 x6_1;obtain ⟨p7,q7,hx7⟩:=abt a0 x6_1;go_wp2;go_ret;exact ⟨xa,xd⟩
       ·have H':=am H;clear H;obtain ⟨p5,q5,hx5⟩:=abt a0 x6_1;obtain ⟨p7,q7,hx7⟩:=abt a0 x6_1;go_wp2
        go_roundg k1
        case measure=>have:=HK1.out;omega
        case rel=>exact ⟨(wrap64 (x6_1+1)),xa,H',⟨by have:=HK1.out;omega⟩,by repeat (first|exact Drawn0.refl _|apply Drawn0.step)⟩
     ·exact absurd H (by simp)
    ·exact absurd H (by simp)
   ·obtain rfl:=si H;go_wp2;go_ret;exact ⟨by first|rfl|(simp;done)|(simp [*];done)|(cases a0.toList <;> simp),by repeat (first|exact Drawn0.refl _|apply Drawn0.step)⟩
def impl_wholeDigits.f (k:Nat) (a0:ByteArray):Option (Bool):=(impl_isDigits.f k a0).bind fun t266=>(if t266=true then (if a0.toList=([48]:List UInt8) then (some true) else (if 0<(a0.size:Int) then (some ((bt a0 0) != 48)) else (none))) else (some false))
set_option maxHeartbeats 8000000 in
set_option maxRecDepth 100000 in
theorem impl_wholeDigits.calls (k:Nat) (a0:ByteArray) (r:Bool) (w:World) (h:impl_wholeDigits.f k a0=some r) :
 Calls Tryz.prog 341 #[.string a0] w fun e w'=>e=.returned (.bool r)∧Drawn0 w w':=by
 have H:((impl_isDigits.f k a0).bind fun t266=>(if t266=true then (if a0.toList=([48]:List UInt8) then (some true) else (if 0<(a0.size:Int) then (some ((bt a0 0) != 48)) else (none))) else (some false)))=some r:=h;clear h;replace H:=bd H;obtain ⟨t266,A2,H⟩:=H
 by_cases c3:t266=true
 ·subst c3;rw [if_pos rfl] at H;replace H:=ii H;obtain ⟨c4,H⟩|⟨c4,H⟩:=H
  ·have c4b0:(a0.toList == ([48]:List UInt8))=true:=beq_iff_eq.mpr c4;have c4b1:(a0.toList != ([48]:List UInt8))=false:=bne_eq_false_iff_eq.mpr c4;clear c4;obtain rfl:=si H;go_enter Tryz.func341,Tryz.ntmps341;go_wp2_with (first|(refine gL 4 Tryz.func342 #[.string a0] ?_;(with_reducible refine (impl_isDigits.calls k a0 true _ A2.out).mono ?_);rintro e w' ⟨rfl,⟨nd,rfl⟩⟩;refine ⟨_,rfl,?_⟩));go_ret;exact ⟨xa,xd⟩
  ·have c4b0:(a0.toList == ([48]:List UInt8))=false:=beq_eq_false_iff_ne.mpr c4;have c4b1:(a0.toList != ([48]:List UInt8))=true:=bne_iff_ne.mpr c4;replace H:=ii H;obtain ⟨c5,H⟩|⟨c5,H⟩:=H
   ·have c5b0:=decide_eq_true c5;have c5b1:decide (0<a0.size)=true:=decide_eq_true (by omega);clear c5;obtain rfl:=si H;go_enter Tryz.func341,Tryz.ntmps341;go_wp2_with (first|(refine gL 4 Tryz.func342 #[.string a0] ?_;(with_reducible refine (impl_isDigits.calls k a0 true _ A2.out).mono ?_);rintro e w' ⟨rfl,⟨nd,rfl⟩⟩;refine ⟨_,rfl,?_⟩;have p6:0≤(0:Int):=(by omega);have q6:0<a0.size:=(by have:(0:Int)<(a0.size:Int):=od;omega);have hx6:∀ h:0<a0.size,((a0[0]'h).toNat:Int)=bt a0 0:=bt_at a0 0;clear p6;have qi6:(0<(a0.size:Int))=True:=eq_true od;replace q6:=eq_true q6));go_ret;exact ⟨xa,xd⟩
   ·exact absurd H (by simp)
 ·replace c3:=Bool.eq_false_iff.mpr c3;subst c3;rw [if_neg (show ¬ (false=true) by decide)] at H;obtain rfl:=si H;go_enter Tryz.func341,Tryz.ntmps341;go_wp2_with (first|(refine gL 4 Tryz.func342 #[.string a0] ?_;(with_reducible refine (impl_isDigits.calls k a0 false _ A2.out).mono ?_);rintro e w' ⟨rfl,⟨nd,rfl⟩⟩;refine ⟨_,rfl,?_⟩));go_ret;exact ⟨xa,xd⟩
end Go.Proofs.YtbahacapnaohcaaGreatDoor.PB
