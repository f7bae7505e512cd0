import Derived.Test.YtbahacapnaohcaaGreatDoorExtA
set_option linter.unusedVariables false
set_option linter.unusedSimpArgs false
namespace Go.Proofs.YtbahacapnaohcaaGreatDoor.PB
open Go.RowKit Go.Proofs.YtbahacapnaohcaaGreatDoorW.PrintWords Go.Proofs.YtbahacapnaohcaaGreatDoorW.PrintLast Go.Proofs.YtbahacapnaohcaaGreatDoorW.PrintMore
mutual
def spec_l12Args.j0:Nat→Int→Bool→Int→Int→ByteArray→Option (Int)
 | 0,_,_,_,_,_=>none
 | k+1,x4,x25,x152000,x152001,x152002=>if x25=true then (if x152001=0 then (if x152002.toList=([]:List UInt8) then (some 1) else (some (-1))) else (some (-1))) else (if x4=4 then (spec_l12Args.j1 k x4 (x4 == 4) x152000 x152001 x152002) else (if x4=5 then (spec_l12Args.j1 k x4 (x4 == 5) x152000 x152001 x152002) else (if x4=6 then (spec_l12Args.j1 k x4 (x4 == 6) x152000 x152001 x152002) else (if x4=7 then (spec_l12Args.j1 k x4 (x4 == 7) x152000 x152001 x152002) else (if x4=11 then (spec_l12Args.j1 k x4 (x4 == 11) x152000 x152001 x152002) else (spec_l12Args.j1 k x4 (x4 == 12) x152000 x152001 x152002))))))
def spec_l12Args.j1:Nat→Int→Bool→Int→Int→ByteArray→Option (Int)
 | 0,_,_,_,_,_=>none
 | k+1,x4,x37,x152000,x152001,x152002=>if x37=true then (if x152001=0 then (if x152002.toList=([]:List UInt8) then (some 2) else (some (-1))) else (some (-1))) else (if x4=8 then (if x152001≥0 then (if x152001≤8 then (if x152002.toList=([]:List UInt8) then (some 1) else (some (-1))) else (some (-1))) else (some (-1))) else (if x4=13 then (if x152001≥1 then (if x152001≤6 then ((spec_LangNameOk.f k x152002).bind fun t154=>(if t154=true then (some x152001) else (some (-1)))) else (some (-1))) else (some (-1))) else (some (-1))))
end
def spec_l12Args.f (k:Nat) (a0_0:Int) (a0_1:Int) (a0_2:ByteArray):Option (Int):=if a0_0=1 then (if a0_1=0 then ((spec_LangNumOk.f k a0_2).bind fun t152=>(if t152=true then (some 0) else (some (-1)))) else (some (-1))) else (if a0_0=2 then (if a0_1=0 then ((spec_LangNameOk.f k a0_2).bind fun t153=>(if t153=true then (some 0) else (some (-1)))) else (some (-1))) else (if a0_0=3 then (spec_l12Args.j0 k a0_0 (a0_0 == 3) a0_0 a0_1 a0_2) else (if a0_0=9 then (spec_l12Args.j0 k a0_0 (a0_0 == 9) a0_0 a0_1 a0_2) else (spec_l12Args.j0 k a0_0 (a0_0 == 10) a0_0 a0_1 a0_2))))
set_option maxHeartbeats 8000000 in
set_option maxRecDepth 100000 in
theorem spec_l12Args.calls (k:Nat) (a0_0:Int) (a0_1:Int) (a0_2:ByteArray) (r:Int) (w:World) (h:spec_l12Args.f k a0_0 a0_1 a0_2=some r) :
 Calls Tryz.prog 165 #[.agg #[.int .i64 a0_0,.int .i64 a0_1,.string a0_2]] w fun e w'=>e=.returned (.int .i64 r)∧Below w.heap.size w w':=by
 have hu102:=Tryz.underlying102;have HB:=am (Below.refl w.heap.size w);have H:(if a0_0=1 then (if a0_1=0 then ((spec_LangNumOk.f k a0_2).bind fun t152=>(if t152=true then (some 0) else (some (-1)))) else (some (-1))) else (if a0_0=2 then (if a0_1=0 then ((spec_LangNameOk.f k a0_2).bind fun t153=>(if t153=true then (some 0) else (some (-1)))) else (some (-1))) else (if a0_0=3 then (spec_l12Args.j0 k a0_0 (a0_0 == 3) a0_0 a0_1 a0_2) else (if a0_0=9 then (spec_l12Args.j0 k a0_0 (a0_0 == 9) a0_0 a0_1 a0_2) else (spec_l12Args.j0 k a0_0 (a0_0 == 10) a0_0 a0_1 a0_2)))))=some r:=h;clear h;replace H:=ii H;obtain ⟨c2,H⟩|⟨c2,H⟩:=H
 ·have c2b0:(a0_0 == 1)=true:=beq_iff_eq.mpr c2;have c2b1:(a0_0 != 1)=false:=bne_eq_false_iff_eq.mpr c2;clear c2;replace H:=ii H;obtain ⟨c3,H⟩|⟨c3,H⟩:=H
  ·have c3b0:(a0_1 == 0)=true:=beq_iff_eq.mpr c3;have c3b1:(a0_1 != 0)=false:=bne_eq_false_iff_eq.mpr c3;clear c3;replace H:=bd H;obtain ⟨t152,A4,H⟩:=H
   by_cases c5:t152=true
   ·subst c5;rw [if_pos rfl] at H;obtain rfl:=si H;go_enter Tryz.func165,Tryz.ntmps165;go_wp2_with (first|(refine bx 1 (#[.int .i64 a0_0,.int .i64 a0_1,.string a0_2]) 102 ?_;intro gb151 hg w6 hbox hb;have BK151:=am (hbox);have GE151:=am ((by rw [hg];exact (below_size (bl HB.out)):w.heap.size≤gb151));replace HB:=am (below_step (bl HB.out) hb);clear hb hbox hg;obtain ⟨hcz7_0,hcz7_1,hcz7_2,hfz7_0,hfz7_1,hfz7_2⟩:=f3 BK151.out)|(go_at_call 171;(with_reducible refine (spec_LangNumOk.calls k a0_2 true _ A4.out).mono ?_);rintro e w' ⟨rfl,⟨nd,rfl⟩⟩));go_ret;exact ⟨xe,bs HB.out GE151.out⟩
   ·replace c5:=Bool.eq_false_iff.mpr c5;subst c5;rw [if_neg (show ¬ (false=true) by decide)] at H;obtain rfl:=si H;go_enter Tryz.func165,Tryz.ntmps165;go_wp2_with (first|(refine bx 1 (#[.int .i64 a0_0,.int .i64 a0_1,.string a0_2]) 102 ?_;intro gb151 hg w8 hbox hb;have BK151:=am (hbox);have GE151:=am ((by rw [hg];exact (below_size (bl HB.out)):w.heap.size≤gb151));replace HB:=am (below_step (bl HB.out) hb);clear hb hbox hg;obtain ⟨hcz9_0,hcz9_1,hcz9_2,hfz9_0,hfz9_1,hfz9_2⟩:=f3 BK151.out)|(go_at_call 171;(with_reducible refine (spec_LangNumOk.calls k a0_2 false _ A4.out).mono ?_);rintro e w' ⟨rfl,⟨nd,rfl⟩⟩));go_ret;exact ⟨xe,bs HB.out GE151.out⟩
  ·have c3b0:(a0_1 == 0)=false:=beq_eq_false_iff_ne.mpr c3;have c3b1:(a0_1 != 0)=true:=bne_iff_ne.mpr c3;obtain rfl:=si H;go_enter Tryz.func165,Tryz.ntmps165;go_wp2_with (first|(refine bx 1 (#[.int .i64 a0_0,.int .i64 a0_1,.string a0_2]) 102 ?_;intro gb151 hg w10 hbox hb;have BK151:=am (hbox);have GE151:=am ((by rw [hg];exact (below_size (bl HB.out)):w.heap.size≤gb151));replace HB:=am (below_step (bl HB.out) hb);clear hb hbox hg;obtain ⟨hcz11_0,hcz11_1,hcz11_2,hfz11_0,hfz11_1,hfz11_2⟩:=f3 BK151.out));go_ret;exact ⟨xe,bs HB.out GE151.out⟩
 ·have c2b0:(a0_0 == 1)=false:=beq_eq_false_iff_ne.mpr c2;have c2b1:(a0_0 != 1)=true:=bne_iff_ne.mpr c2;replace H:=ii H;obtain ⟨c12,H⟩|⟨c12,H⟩:=H
  ·have c12b0:(a0_0 == 2)=true:=beq_iff_eq.mpr c12;have c12b1:(a0_0 != 2)=false:=bne_eq_false_iff_eq.mpr c12;clear c12;replace H:=ii H;obtain ⟨c13,H⟩|⟨c13,H⟩:=H
   ·have c13b0:(a0_1 == 0)=true:=beq_iff_eq.mpr c13;have c13b1:(a0_1 != 0)=false:=bne_eq_false_iff_eq.mpr c13;clear c13;replace H:=bd H;obtain ⟨t153,A14,H⟩:=H
    by_cases c15:t153=true
    ·subst c15;rw [if_pos rfl] at H;obtain rfl:=si H;go_enter Tryz.func165,Tryz.ntmps165;go_wp2_with (first|(refine bx 1 (#[.int .i64 a0_0,.int .i64 a0_1,.string a0_2]) 102 ?_;intro gb151 hg w16 hbox hb;have BK151:=am (hbox);have GE151:=am ((by rw [hg];exact (below_size (bl HB.out)):w.heap.size≤gb151));replace HB:=am (below_step (bl HB.out) hb);clear hb hbox hg;obtain ⟨hcz17_0,hcz17_1,hcz17_2,hfz17_0,hfz17_1,hfz17_2⟩:=f3 BK151.out)|(go_at_call 84;(with_reducible refine (spec_LangNameOk.calls k a0_2 true _ A14.out).mono ?_);rintro e w' ⟨rfl,⟨nd,rfl⟩⟩));go_ret;exact ⟨xe,bs HB.out GE151.out⟩
    ·replace c15:=Bool.eq_false_iff.mpr c15;subst c15;rw [if_neg (show ¬ (false=true) by decide)] at H;obtain rfl:=si H;go_enter Tryz.func165,Tryz.ntmps165;go_wp2_with (first|(refine bx 1 (#[.int .i64 a0_0,.int .i64 a0_1,.string a0_2]) 102 ?_;intro gb151 hg w18 hbox hb;have BK151:=am (hbox);have GE151:=am ((by rw [hg];exact (below_size (bl HB.out)):w.heap.size≤gb151));replace HB:=am (below_step (bl HB.out) hb);clear hb hbox hg;obtain ⟨hcz19_0,hcz19_1,hcz19_2,hfz19_0,hfz19_1,hfz19_2⟩:=f3 BK151.out)|(go_at_call 84;(with_reducible refine (spec_LangNameOk.calls k a0_2 false _ A14.out).mono ?_);rintro e w' ⟨rfl,⟨nd,rfl⟩⟩));go_ret;exact ⟨xe,bs HB.out GE151.out⟩
   ·have c13b0:(a0_1 == 0)=false:=beq_eq_false_iff_ne.mpr c13;have c13b1:(a0_1 != 0)=true:=bne_iff_ne.mpr c13;obtain rfl:=si H;go_enter Tryz.func165,Tryz.ntmps165;go_wp2_with (first|(refine bx 1 (#[.int .i64 a0_0,.int .i64 a0_1,.string a0_2]) 102 ?_;intro gb151 hg w20 hbox hb;have BK151:=am (hbox);have GE151:=am ((by rw [hg];exact (below_size (bl HB.out)):w.heap.size≤gb151));replace HB:=am (below_step (bl HB.out) hb);clear hb hbox hg;obtain ⟨hcz21_0,hcz21_1,hcz21_2,hfz21_0,hfz21_1,hfz21_2⟩:=f3 BK151.out));go_ret;exact ⟨xe,bs HB.out GE151.out⟩
  ·have c12b0:(a0_0 == 2)=false:=beq_eq_false_iff_ne.mpr c12;have c12b1:(a0_0 != 2)=true:=bne_iff_ne.mpr c12;have HC22:=am H;clear H;go_enter Tryz.func165,Tryz.ntmps165
   go_upto_if 25 with (first|(refine bx 1 (#[.int .i64 a0_0,.int .i64 a0_1,.string a0_2]) 102 ?_;intro gb151 hg w23 hbox hb;have BK151:=am (hbox);have GE151:=am ((by rw [hg];exact (below_size (bl HB.out)):w.heap.size≤gb151));replace HB:=am (below_step (bl HB.out) hb);clear hb hbox hg;obtain ⟨hcz24_0,hcz24_1,hcz24_2,hfz24_0,hfz24_1,hfz24_2⟩:=f3 BK151.out))
   (try simp only [Act.put,List.setIfInBounds_toArray,List.set_cons_zero,List.set_cons_succ])
   go_cut [25] (fun v25 wc=>∃ (kq:Nat) (x25_21:Bool),v25=.bool x25_21∧Aside0 (spec_l12Args.j0 kq a0_0 x25_21 a0_0 a0_1 a0_2=some r)∧Aside0 (kq≤k)∧Aside0 (wc.heap[gb151]?=some (.cells #[.int .i64 a0_0,.int .i64 a0_1,.string a0_2] 102 (0,0)))∧Aside0 (Below w.heap.size w wc))
   case first=>
    have H:=HC22.out;clear HC22;replace H:=ii H;obtain ⟨c25,H⟩|⟨c25,H⟩:=H
    ·have c25b0:(a0_0 == 3)=true:=beq_iff_eq.mpr c25;have c25b1:(a0_0 != 3)=false:=bne_eq_false_iff_eq.mpr c25;clear c25
     (first|rw [c25b0]|(simp only [i64_w];rw [c25b0])|skip)
     have H':=am H;clear H;go_wp2
     go_meet
     case rel=>exact ⟨_,((a0_0 == 3)),xa,H',⟨by first|omega|exact Nat.le_refl _⟩,⟨bk BK151.out⟩,⟨bs HB.out GE151.out⟩⟩
    ·have c25b0:(a0_0 == 3)=false:=beq_eq_false_iff_ne.mpr c25;have c25b1:(a0_0 != 3)=true:=bne_iff_ne.mpr c25
     (first|rw [c25b0]|(simp only [i64_w];rw [c25b0])|skip)
     replace H:=ii H;obtain ⟨c26,H⟩|⟨c26,H⟩:=H
     ·have c26b0:(a0_0 == 9)=true:=beq_iff_eq.mpr c26;have c26b1:(a0_0 != 9)=false:=bne_eq_false_iff_eq.mpr c26;clear c26;have H':=am H;clear H;go_wp2
      go_meet
      case rel=>exact ⟨_,((a0_0 == 9)),xa,H',⟨by first|omega|exact Nat.le_refl _⟩,⟨bk BK151.out⟩,⟨bs HB.out GE151.out⟩⟩
     ·have c26b0:(a0_0 == 9)=false:=beq_eq_false_iff_ne.mpr c26;have c26b1:(a0_0 != 9)=true:=bne_iff_ne.mpr c26;have H':=am H;clear H;go_wp2
      go_meet
      case rel=>exact ⟨_,((a0_0 == 10)),xa,H',⟨by first|omega|exact Nat.le_refl _⟩,⟨bk BK151.out⟩,⟨bs HB.out GE151.out⟩⟩
   case rest=>
    clear HC22;obtain ⟨kq,x25_21,rfl,HA,HJ21,BK151,HB⟩:=hcut
    cases kq with
    | zero=>exact absurd HA.out (by simp [spec_l12Args.j0])
    | succ kj21=>
     have H:=HA.out;clear HA;simp only [spec_l12Args.j0] at H
     by_cases c27:x25_21=true
     ·subst c27;rw [if_pos rfl] at H;replace H:=ii H;obtain ⟨c28,H⟩|⟨c28,H⟩:=H
      ·have c28b0:(a0_1 == 0)=true:=beq_iff_eq.mpr c28;have c28b1:(a0_1 != 0)=false:=bne_eq_false_iff_eq.mpr c28;clear c28;replace H:=ii H;obtain ⟨c29,H⟩|⟨c29,H⟩:=H
       ·have c29b0:(a0_2.toList == ([]:List UInt8))=true:=beq_iff_eq.mpr c29;have c29b1:(a0_2.toList != ([]:List UInt8))=false:=bne_eq_false_iff_eq.mpr c29;clear c29;obtain rfl:=si H;obtain ⟨hcz30_0,hcz30_1,hcz30_2,hfz30_0,hfz30_1,hfz30_2⟩:=f3 BK151.out;go_wp2;go_ret;exact ⟨xe,bs HB.out GE151.out⟩
       ·have c29b0:(a0_2.toList == ([]:List UInt8))=false:=beq_eq_false_iff_ne.mpr c29;have c29b1:(a0_2.toList != ([]:List UInt8))=true:=bne_iff_ne.mpr c29;obtain rfl:=si H;obtain ⟨hcz31_0,hcz31_1,hcz31_2,hfz31_0,hfz31_1,hfz31_2⟩:=f3 BK151.out;go_wp2;go_ret;exact ⟨xe,bs HB.out GE151.out⟩
      ·have c28b0:(a0_1 == 0)=false:=beq_eq_false_iff_ne.mpr c28;have c28b1:(a0_1 != 0)=true:=bne_iff_ne.mpr c28;obtain rfl:=si H;obtain ⟨hcz32_0,hcz32_1,hcz32_2,hfz32_0,hfz32_1,hfz32_2⟩:=f3 BK151.out;go_wp2;go_ret;exact ⟨xe,bs HB.out GE151.out⟩
     ·replace c27:=Bool.eq_false_iff.mpr c27;subst c27;rw [if_neg (show ¬ (false=true) by decide)] at H;have HC33:=am H;clear H
      go_upto_if 37 with (fail)
      go_cut [37] (fun v37 wc=>∃ (kq:Nat) (x37_32:Bool),v37=.bool x37_32∧Aside0 (spec_l12Args.j1 kq a0_0 x37_32 a0_0 a0_1 a0_2=some r)∧Aside0 (kq≤kj21)∧Aside0 (wc.heap[gb151]?=some (.cells #[.int .i64 a0_0,.int .i64 a0_1,.string a0_2] 102 (0,0)))∧Aside0 (Below w.heap.size w wc))
      case first=>
       have H:=HC33.out;clear HC33;replace H:=ii H;obtain ⟨c34,H⟩|⟨c34,H⟩:=H
       ·have c34b0:(a0_0 == 4)=true:=beq_iff_eq.mpr c34;have c34b1:(a0_0 != 4)=false:=bne_eq_false_iff_eq.mpr c34;clear c34
        (first|rw [c34b0]|(simp only [i64_w];rw [c34b0])|skip)
        have H':=am H;clear H;go_wp2
        go_meet
        case rel=>exact ⟨_,((a0_0 == 4)),xa,H',⟨by have:=HJ21.out;first|omega|exact Nat.le_refl _⟩,⟨bk BK151.out⟩,⟨bs HB.out GE151.out⟩⟩
       ·have c34b0:(a0_0 == 4)=false:=beq_eq_false_iff_ne.mpr c34;have c34b1:(a0_0 != 4)=true:=bne_iff_ne.mpr c34
        (first|rw [c34b0]|(simp only [i64_w];rw [c34b0])|skip)
        replace H:=ii H;obtain ⟨c35,H⟩|⟨c35,H⟩:=H
        ·have c35b0:(a0_0 == 5)=true:=beq_iff_eq.mpr c35;have c35b1:(a0_0 != 5)=false:=bne_eq_false_iff_eq.mpr c35;clear c35;have H':=am H;clear H;go_wp2
         go_meet
         case rel=>exact ⟨_,((a0_0 == 5)),xa,H',⟨by have:=HJ21.out;first|omega|exact Nat.le_refl _⟩,⟨bk BK151.out⟩,⟨bs HB.out GE151.out⟩⟩
        ·have c35b0:(a0_0 == 5)=false:=beq_eq_false_iff_ne.mpr c35;have c35b1:(a0_0 != 5)=true:=bne_iff_ne.mpr c35;replace H:=ii H;obtain ⟨c36,H⟩|⟨c36,H⟩:=H
         ·have c36b0:(a0_0 == 6)=true:=beq_iff_eq.mpr c36;have c36b1:(a0_0 != 6)=false:=bne_eq_false_iff_eq.mpr c36;clear c36;have H':=am H;clear H;go_wp2
          go_meet
          case rel=>exact ⟨_,((a0_0 == 6)),xa,H',⟨by have:=HJ21.out;first|omega|exact Nat.le_refl _⟩,⟨bk BK151.out⟩,⟨bs HB.out GE151.out⟩⟩
         ·have c36b0:(a0_0 == 6)=false:=beq_eq_false_iff_ne.mpr c36;have c36b1:(a0_0 != 6)=true:=bne_iff_ne.mpr c36;replace H:=ii H;obtain ⟨c37,H⟩|⟨c37,H⟩:=H
          ·have c37b0:(a0_0 == 7)=true:=beq_iff_eq.mpr c37;have c37b1:(a0_0 != 7)=false:=bne_eq_false_iff_eq.mpr c37;clear c37;have H':=am H;clear H;go_wp2
           go_meet
           case rel=>exact ⟨_,((a0_0 == 7)),xa,H',⟨by have:=HJ21.out;first|omega|exact Nat.le_refl _⟩,⟨bk BK151.out⟩,⟨bs HB.out GE151.out⟩⟩
          ·have c37b0:(a0_0 == 7)=false:=beq_eq_false_iff_ne.mpr c37;have c37b1:(a0_0 != 7)=true:=bne_iff_ne.mpr c37;replace H:=ii H;obtain ⟨c38,H⟩|⟨c38,H⟩:=H
           ·have c38b0:(a0_0 == 11)=true:=beq_iff_eq.mpr c38;have c38b1:(a0_0 != 11)=false:=bne_eq_false_iff_eq.mpr c38;clear c38;have H':=am H;clear H;go_wp2
            go_meet
            case rel=>exact ⟨_,((a0_0 == 11)),xa,H',⟨by have:=HJ21.out;first|omega|exact Nat.le_refl _⟩,⟨bk BK151.out⟩,⟨bs HB.out GE151.out⟩⟩
           ·have c38b0:(a0_0 == 11)=false:=beq_eq_false_iff_ne.mpr c38;have c38b1:(a0_0 != 11)=true:=bne_iff_ne.mpr c38;have H':=am H;clear H;go_wp2
            go_meet
            case rel=>exact ⟨_,((a0_0 == 12)),xa,H',⟨by have:=HJ21.out;first|omega|exact Nat.le_refl _⟩,⟨bk BK151.out⟩,⟨bs HB.out GE151.out⟩⟩
      case rest=>
       clear HC33;obtain ⟨kq,x37_32,rfl,HA,HJ32,BK151,HB⟩:=hcut
       cases kq with
       | zero=>exact absurd HA.out (by simp [spec_l12Args.j1])
       | succ kj32=>
        have H:=HA.out;clear HA;simp only [spec_l12Args.j1] at H
        by_cases c39:x37_32=true
        ·subst c39;rw [if_pos rfl] at H;replace H:=ii H;obtain ⟨c40,H⟩|⟨c40,H⟩:=H
         ·have c40b0:(a0_1 == 0)=true:=beq_iff_eq.mpr c40;have c40b1:(a0_1 != 0)=false:=bne_eq_false_iff_eq.mpr c40;clear c40;replace H:=ii H;obtain ⟨c41,H⟩|⟨c41,H⟩:=H
          ·have c41b0:(a0_2.toList == ([]:List UInt8))=true:=beq_iff_eq.mpr c41;have c41b1:(a0_2.toList != ([]:List UInt8))=false:=bne_eq_false_iff_eq.mpr c41;clear c41;obtain rfl:=si H;obtain ⟨hcz42_0,hcz42_1,hcz42_2,hfz42_0,hfz42_1,hfz42_2⟩:=f3 BK151.out;go_wp2;go_ret;exact ⟨xe,bs HB.out GE151.out⟩
          ·have c41b0:(a0_2.toList == ([]:List UInt8))=false:=beq_eq_false_iff_ne.mpr c41;have c41b1:(a0_2.toList != ([]:List UInt8))=true:=bne_iff_ne.mpr c41;obtain rfl:=si H;obtain ⟨hcz43_0,hcz43_1,hcz43_2,hfz43_0,hfz43_1,hfz43_2⟩:=f3 BK151.out;go_wp2;go_ret;exact ⟨xe,bs HB.out GE151.out⟩
         ·have c40b0:(a0_1 == 0)=false:=beq_eq_false_iff_ne.mpr c40;have c40b1:(a0_1 != 0)=true:=bne_iff_ne.mpr c40;obtain rfl:=si H;obtain ⟨hcz44_0,hcz44_1,hcz44_2,hfz44_0,hfz44_1,hfz44_2⟩:=f3 BK151.out;go_wp2;go_ret;exact ⟨xe,bs HB.out GE151.out⟩
        ·replace c39:=Bool.eq_false_iff.mpr c39;subst c39;rw [if_neg (show ¬ (false=true) by decide)] at H;replace H:=ii H;obtain ⟨c45,H⟩|⟨c45,H⟩:=H
         ·have c45b0:(a0_0 == 8)=true:=beq_iff_eq.mpr c45;have c45b1:(a0_0 != 8)=false:=bne_eq_false_iff_eq.mpr c45;clear c45;replace H:=ic H;obtain ⟨c46b0,H⟩|⟨c46b0,H⟩:=H
          ·replace H:=ic H;obtain ⟨c47b0,H⟩|⟨c47b0,H⟩:=H
           ·replace H:=ii H;obtain ⟨c48,H⟩|⟨c48,H⟩:=H
            ·have c48b0:(a0_2.toList == ([]:List UInt8))=true:=beq_iff_eq.mpr c48;have c48b1:(a0_2.toList != ([]:List UInt8))=false:=bne_eq_false_iff_eq.mpr c48;clear c48;obtain rfl:=si H;obtain ⟨hcz49_0,hcz49_1,hcz49_2,hfz49_0,hfz49_1,hfz49_2⟩:=f3 BK151.out;go_wp2;go_ret;exact ⟨xe,bs HB.out GE151.out⟩
            ·have c48b0:(a0_2.toList == ([]:List UInt8))=false:=beq_eq_false_iff_ne.mpr c48;have c48b1:(a0_2.toList != ([]:List UInt8))=true:=bne_iff_ne.mpr c48;obtain rfl:=si H;obtain ⟨hcz50_0,hcz50_1,hcz50_2,hfz50_0,hfz50_1,hfz50_2⟩:=f3 BK151.out;go_wp2;go_ret;exact ⟨xe,bs HB.out GE151.out⟩
           ·obtain rfl:=si H;obtain ⟨hcz51_0,hcz51_1,hcz51_2,hfz51_0,hfz51_1,hfz51_2⟩:=f3 BK151.out;go_wp2;go_ret;exact ⟨xe,bs HB.out GE151.out⟩
          ·obtain rfl:=si H;obtain ⟨hcz52_0,hcz52_1,hcz52_2,hfz52_0,hfz52_1,hfz52_2⟩:=f3 BK151.out;go_wp2;go_ret;exact ⟨xe,bs HB.out GE151.out⟩
         ·have c45b0:(a0_0 == 8)=false:=beq_eq_false_iff_ne.mpr c45;have c45b1:(a0_0 != 8)=true:=bne_iff_ne.mpr c45;replace H:=ii H;obtain ⟨c53,H⟩|⟨c53,H⟩:=H
          ·have c53b0:(a0_0 == 13)=true:=beq_iff_eq.mpr c53;have c53b1:(a0_0 != 13)=false:=bne_eq_false_iff_eq.mpr c53;clear c53;replace H:=ic H;obtain ⟨c54b0,H⟩|⟨c54b0,H⟩:=H
           ·replace H:=ic H;obtain ⟨c55b0,H⟩|⟨c55b0,H⟩:=H
            ·replace H:=bd H;obtain ⟨t154,A56,H⟩:=H
             by_cases c57:t154=true
             ·subst c57;rw [if_pos rfl] at H;obtain rfl:=si H;obtain ⟨hcz58_0,hcz58_1,hcz58_2,hfz58_0,hfz58_1,hfz58_2⟩:=f3 BK151.out;go_wp2_with (first|(go_at_call 84;(with_reducible refine (spec_LangNameOk.calls kj32 a0_2 true _ A56.out).mono ?_);rintro e w' ⟨rfl,⟨nd,rfl⟩⟩));go_ret;exact ⟨xe,bs HB.out GE151.out⟩
             ·replace c57:=Bool.eq_false_iff.mpr c57;subst c57;rw [if_neg (show ¬ (false=true) by decide)] at H;obtain rfl:=si H;obtain ⟨hcz59_0,hcz59_1,hcz59_2,hfz59_0,hfz59_1,hfz59_2⟩:=f3 BK151.out;go_wp2_with (first|(go_at_call 84;(with_reducible refine (spec_LangNameOk.calls kj32 a0_2 false _ A56.out).mono ?_);rintro e w' ⟨rfl,⟨nd,rfl⟩⟩));go_ret;exact ⟨xe,bs HB.out GE151.out⟩
            ·obtain rfl:=si H;obtain ⟨hcz60_0,hcz60_1,hcz60_2,hfz60_0,hfz60_1,hfz60_2⟩:=f3 BK151.out;go_wp2;go_ret;exact ⟨xe,bs HB.out GE151.out⟩
           ·obtain rfl:=si H;obtain ⟨hcz61_0,hcz61_1,hcz61_2,hfz61_0,hfz61_1,hfz61_2⟩:=f3 BK151.out;go_wp2;go_ret;exact ⟨xe,bs HB.out GE151.out⟩
          ·have c53b0:(a0_0 == 13)=false:=beq_eq_false_iff_ne.mpr c53;have c53b1:(a0_0 != 13)=true:=bne_iff_ne.mpr c53;obtain rfl:=si H;go_wp2;go_ret;exact ⟨xe,bs HB.out GE151.out⟩
def spec_TermOk.l0:Nat→Int→Int→List (S102)→Option (Bool)
 | 0,_,_,_=>none
 | k+1,x3,x4,x156000=>if x4<(x156000.length:Int) then (if 0≤x4 then ((spec_l12Args.f k ((rd_T102 x156000 x4).f0) ((rd_T102 x156000 x4).f1) ((rd_T102 x156000 x4).f2)).bind fun t157=>(if t157<0 then (some false) else (if t157 > x3 then (some false) else (spec_TermOk.l0 k (wrap64 ((wrap64 (x3 - t157))+1)) (wrap64 (x4+1)) x156000)))) else (none)) else (some (x3 == 1))
def spec_TermOk.f (k:Nat) (l0_0:List (S102)):Option (Bool):=if (l0_0.length:Int) > 100 then (some false) else (spec_TermOk.l0 k 0 0 l0_0)
set_option maxHeartbeats 8000000 in
set_option maxRecDepth 100000 in
theorem spec_TermOk.calls (k:Nat) (A0_0:Option Addr) (c0_0:Nat) (l0_0:List (S102)) (r:Bool) (w:World) (hr0_0:Kd.C k102 w A0_0 l0_0.length l0_0) (hc0_0:l0_0.length≤c0_0) (h:spec_TermOk.f k l0_0=some r) :
 Calls Tryz.prog 68 #[.agg #[.slice A0_0 l0_0.length c0_0]] w fun e w'=>e=.returned (.bool r)∧Below w.heap.size w w':=by
 have hu25:=Tryz.underlying25;have hu102:=Tryz.underlying102;obtain ⟨HR0_0,HC0_0⟩:=hd2 hr0_0 hc0_0;clear hr0_0 hc0_0;have HB:=am (Below.refl w.heap.size w);have H:(if (l0_0.length:Int) > 100 then (some false) else (spec_TermOk.l0 k 0 0 l0_0))=some r:=h;clear h;replace H:=ii H;obtain ⟨c2,H⟩|⟨c2,H⟩:=H
 ·have c2b0:=decide_eq_true c2;have c2b1:decide (100<l0_0.length)=true:=decide_eq_true (by omega);clear c2;obtain rfl:=si H;go_enter Tryz.func68,Tryz.ntmps68;go_wp2_with (first|(refine bx 1 (#[.slice A0_0 l0_0.length c0_0]) 25 ?_;intro gb155 hg w3 hbox hb;have BK155:=am (hbox);have GE155:=am ((by rw [hg];exact (below_size (bl HB.out)):w.heap.size≤gb155));replace HB:=am (below_step (bl HB.out) hb);clear hb hbox hg;obtain ⟨hcz4_0,hfz4_0⟩:=f1 BK155.out));go_ret;exact ⟨xe,bs HB.out GE155.out⟩
 ·have c2b0:=decide_eq_false c2;have c2b1:decide (100<l0_0.length)=false:=decide_eq_false (by omega);clear c2;have H':=am H;clear H;go_enter Tryz.func68,Tryz.ntmps68;go_wp2_with (first|(refine bx 1 (#[.slice A0_0 l0_0.length c0_0]) 25 ?_;intro gb155 hg w5 hbox hb;have BK155:=am (hbox);have GE155:=am ((by rw [hg];exact (below_size (bl HB.out)):w.heap.size≤gb155));replace HB:=am (below_step (bl HB.out) hb);clear hb hbox hg;obtain ⟨hcz6_0,hfz6_0⟩:=f1 BK155.out))
  go_loopg [3,4] k (fun kq v3 v4 w'=>∃ (x3_1:Int) (x4_1:Int),v3=.int .i64 x3_1∧v4=.int .i64 x4_1∧Aside0 (spec_TermOk.l0 kq x3_1 x4_1 l0_0=some r)∧Aside0 (kq≤k)∧Aside0 (w'.heap[gb155]?=some (.cells #[(.slice A0_0 l0_0.length c0_0)] 25 (0,0)))∧Aside0 (Below w.heap.size w w'))
  case atStart=>exact ⟨(0),(0),xa,xa,H',⟨Nat.le_refl _⟩,⟨bk BK155.out⟩,⟨bs HB.out GE155.out⟩⟩
  case round=>
   clear H';obtain ⟨x3_1,x4_1,rfl,rfl,HA,HK1,BK155,HB⟩:=hrel
   cases gk with
   | zero=>exact absurd HA.out (by simp [spec_TermOk.l0])
   | succ k1=>
    have H:=HA.out;clear HA;simp only [spec_TermOk.l0] at H;replace H:=ic H;obtain ⟨c7b0,H⟩|⟨c7b0,H⟩:=H
    ·replace H:=ii H;obtain ⟨c8,H⟩|⟨c8,H⟩:=H
     ·have c8b0:=decide_eq_true c8;clear c8;replace H:=bd H;obtain ⟨t157,A9,H⟩:=H;replace H:=ic H;obtain ⟨c10b0,H⟩|⟨c10b0,H⟩:=H
      ·obtain rfl:=si H;obtain ⟨hcz11_0,hfz11_0⟩:=f1 BK155.out;obtain ⟨p156,q156,ad156,e156,hw156_0,hw156_1,hw156_2⟩:=aT102 HR0_0.out x4_1;cases e156;have hx156_0:=pb HB.out hw156_0;have hx156_1:=pb HB.out hw156_1;have hx156_2:=pb HB.out hw156_2;go_wp2_with (first|(refine gL 22 Tryz.func165 #[.agg #[.int .i64 ((rd_T102 l0_0 x4_1).f0),.int .i64 ((rd_T102 l0_0 x4_1).f1),.string ((rd_T102 l0_0 x4_1).f2)]] ?_;(with_reducible refine (spec_l12Args.calls k1 ((rd_T102 l0_0 x4_1).f0) ((rd_T102 l0_0 x4_1).f1) ((rd_T102 l0_0 x4_1).f2) t157 _ A9.out).mono ?_);rintro e w12 ⟨rfl,hb⟩;refine ⟨_,rfl,?_⟩;replace BK155:=am (blk_below (g:=gb155) (o:=.cells #[.slice (some ad156) l0_0.length c0_0] 25 (0,0)) (bk BK155.out) hb);replace HB:=am (below_step (bs HB.out GE155.out) hb)));go_ret;exact ⟨xe,bs HB.out GE155.out⟩
      ·replace H:=ic H;obtain ⟨c13b0,H⟩|⟨c13b0,H⟩:=H
       ·obtain rfl:=si H;obtain ⟨hcz14_0,hfz14_0⟩:=f1 BK155.out;obtain ⟨p156,q156,ad156,e156,hw156_0,hw156_1,hw156_2⟩:=aT102 HR0_0.out x4_1;cases e156;have hx156_0:=pb HB.out hw156_0;have hx156_1:=pb HB.out hw156_1;have hx156_2:=pb HB.out hw156_2;go_wp2_with (first|(refine gL 22 Tryz.func165 #[.agg #[.int .i64 ((rd_T102 l0_0 x4_1).f0),.int .i64 ((rd_T102 l0_0 x4_1).f1),.string ((rd_T102 l0_0 x4_1).f2)]] ?_;(with_reducible refine (spec_l12Args.calls k1 ((rd_T102 l0_0 x4_1).f0) ((rd_T102 l0_0 x4_1).f1) ((rd_T102 l0_0 x4_1).f2) t157 _ A9.out).mono ?_);rintro e w15 ⟨rfl,hb⟩;refine ⟨_,rfl,?_⟩;replace BK155:=am (blk_below (g:=gb155) (o:=.cells #[.slice (some ad156) l0_0.length c0_0] 25 (0,0)) (bk BK155.out) hb);replace HB:=am (below_step (bs HB.out GE155.out) hb)));go_ret;exact ⟨xe,bs HB.out GE155.out⟩
       ·have H':=am H;clear H;obtain ⟨hcz16_0,hfz16_0⟩:=f1 BK155.out;obtain ⟨p156,q156,ad156,e156,hw156_0,hw156_1,hw156_2⟩:=aT102 HR0_0.out x4_1;cases e156;have hx156_0:=pb HB.out hw156_0;have hx156_1:=pb HB.out hw156_1;have hx156_2:=pb HB.out hw156_2;go_wp2_with (first|(refine gL 22 Tryz.func165 #[.agg #[.int .i64 ((rd_T102 l0_0 x4_1).f0),.int .i64 ((rd_T102 l0_0 x4_1).f1),.string ((rd_T102 l0_0 x4_1).f2)]] ?_;(with_reducible refine (spec_l12Args.calls k1 ((rd_T102 l0_0 x4_1).f0) ((rd_T102 l0_0 x4_1).f1) ((rd_T102 l0_0 x4_1).f2) t157 _ A9.out).mono ?_);rintro e w17 ⟨rfl,hb⟩;refine ⟨_,rfl,?_⟩;replace BK155:=am (blk_below (g:=gb155) (o:=.cells #[.slice (some ad156) l0_0.length c0_0] 25 (0,0)) (bk BK155.out) hb);replace HB:=am (below_step (bs HB.out GE155.out) hb)))
        go_roundg k1
        case measure=>have:=HK1.out;omega
        case rel=>exact ⟨(wrap64 ((wrap64 (x3_1 - t157))+1)),(wrap64 (x4_1+1)),xa,xa,H',⟨by have:=HK1.out;omega⟩,⟨bk BK155.out⟩,⟨bs HB.out GE155.out⟩⟩
     ·exact absurd H (by simp)
    ·obtain rfl:=si H;obtain ⟨hcz18_0,hfz18_0⟩:=f1 BK155.out;go_wp2;go_ret;exact ⟨xe,bs HB.out GE155.out⟩
def spec_l13Names.l0:Nat→List ByteArray→Int→Option (Bool)
 | 0,_,_=>none
 | k+1,x0,x3=>if x3<(x0.length:Int) then (if 0≤x3 then ((spec_LangNameOk.f k (rdOf ByteArray.empty x0 x3)).bind fun t159=>(if t159=true then (spec_l13Names.l0 k x0 (wrap64 (x3+1))) else (some false))) else (none)) else (some true)
def spec_l13Names.f (k:Nat) (l0:List ByteArray):Option (Bool):=spec_l13Names.l0 k l0 0
set_option maxHeartbeats 8000000 in
set_option maxRecDepth 100000 in
theorem spec_l13Names.calls (k:Nat) (A0:Option Addr) (c0:Nat) (l0:List ByteArray) (r:Bool) (w:World) (hr0:Kd.C Kd.string w A0 l0.length l0) (hc0:l0.length≤c0) (h:spec_l13Names.f k l0=some r) :
 Calls Tryz.prog 321 #[.slice A0 l0.length c0] w fun e w'=>e=.returned (.bool r)∧Drawn0 w w':=by
 obtain ⟨HR0,HC0⟩:=hd2 hr0 hc0;clear hr0 hc0;have H:(spec_l13Names.l0 k l0 0)=some r:=h;clear h;have H':=am H;clear H;go_enter Tryz.func321,Tryz.ntmps321;go_wp2
 go_loopg [3] k (fun kq v3 w'=>∃ (x3_1:Int),v3=.int .i64 x3_1∧Aside0 (spec_l13Names.l0 kq l0 x3_1=some r)∧Aside0 (kq≤k)∧Drawn0 w w')
 case atStart=>exact ⟨(0),xa,H',⟨Nat.le_refl _⟩,by repeat (first|exact Drawn0.refl _|apply Drawn0.step)⟩
 case round=>
  clear H';obtain ⟨x3_1,rfl,HA,HK1,⟨m1,rfl⟩⟩:=hrel
  cases gk with
  | zero=>exact absurd HA.out (by simp [spec_l13Names.l0])
  | succ k1=>
   have H:=HA.out;clear HA;simp only [spec_l13Names.l0] at H;replace H:=ic H;obtain ⟨c2b0,H⟩|⟨c2b0,H⟩:=H
   ·replace H:=ii H;obtain ⟨c3,H⟩|⟨c3,H⟩:=H
    ·have c3b0:=decide_eq_true c3;clear c3;replace H:=bd H;obtain ⟨t159,A4,H⟩:=H
     by_cases c5:t159=true
     ·subst c5;rw [if_pos rfl] at H;have H':=am H;clear H;have p158:0≤(x3_1:Int):=od;have q158:x3_1<(l0.length:Int):=od;obtain ⟨ad158,e158,hx158_0⟩:=Kd.at_string HR0.out x3_1 p158 q158;cases e158;replace p158:=eq_true p158;replace q158:=eq_true q158;go_wp2_with (first|(refine gL 14 Tryz.func84 #[.string (rdOf ByteArray.empty l0 x3_1)] ?_;(with_reducible refine (spec_LangNameOk.calls k1 (rdOf ByteArray.empty l0 x3_1) true _ A4.out).mono ?_);rintro e w' ⟨rfl,⟨nd,rfl⟩⟩;refine ⟨_,rfl,?_⟩))
      go_roundg k1
      case measure=>have:=HK1.out;omega
      case rel=>exact ⟨(wrap64 (x3_1+1)),xa,H',⟨by have:=HK1.out;omega⟩,by repeat (first|exact Drawn0.refl _|apply Drawn0.step)⟩
     ·replace c5:=Bool.eq_false_iff.mpr c5;subst c5;rw [if_neg (show ¬ (false=true) by decide)] at H;obtain rfl:=si H;have p158:0≤(x3_1:Int):=od;have q158:x3_1<(l0.length:Int):=od;obtain ⟨ad158,e158,hx158_0⟩:=Kd.at_string HR0.out x3_1 p158 q158;cases e158;replace p158:=eq_true p158;replace q158:=eq_true q158;go_wp2_with (first|(refine gL 14 Tryz.func84 #[.string (rdOf ByteArray.empty l0 x3_1)] ?_;(with_reducible refine (spec_LangNameOk.calls k1 (rdOf ByteArray.empty l0 x3_1) false _ A4.out).mono ?_);rintro e w' ⟨rfl,⟨nd,rfl⟩⟩;refine ⟨_,rfl,?_⟩));go_ret;exact ⟨xa,xd⟩
    ·exact absurd H (by simp)
   ·obtain rfl:=si H;go_wp2;go_ret;exact ⟨xa,xd⟩
def spec_l13Kind.f (a0:Int):Option (Bool):=if a0=1 then (some true) else (if a0=2 then (some true) else (some (a0 == 3)))
set_option maxHeartbeats 8000000 in
set_option maxRecDepth 100000 in
theorem spec_l13Kind.calls (a0:Int) (r:Bool) (w:World) (h:spec_l13Kind.f a0=some r) :
 Calls Tryz.prog 322 #[.int .i64 a0] w fun e w'=>e=.returned (.bool r)∧Drawn0 w w':=by
 have H:(if a0=1 then (some true) else (if a0=2 then (some true) else (some (a0 == 3))))=some r:=h;clear h;replace H:=ii H;obtain ⟨c2,H⟩|⟨c2,H⟩:=H
 ·have c2b0:(a0 == 1)=true:=beq_iff_eq.mpr c2;have c2b1:(a0 != 1)=false:=bne_eq_false_iff_eq.mpr c2;clear c2;obtain rfl:=si H;go_enter Tryz.func322,Tryz.ntmps322;go_wp2;go_ret;exact ⟨xa,xd⟩
 ·have c2b0:(a0 == 1)=false:=beq_eq_false_iff_ne.mpr c2;have c2b1:(a0 != 1)=true:=bne_iff_ne.mpr c2;replace H:=ii H;obtain ⟨c3,H⟩|⟨c3,H⟩:=H
  ·have c3b0:(a0 == 2)=true:=beq_iff_eq.mpr c3;have c3b1:(a0 != 2)=false:=bne_eq_false_iff_eq.mpr c3;clear c3;obtain rfl:=si H;go_enter Tryz.func322,Tryz.ntmps322;go_wp2;go_ret;exact ⟨xa,xd⟩
  ·have c3b0:(a0 == 2)=false:=beq_eq_false_iff_ne.mpr c3;have c3b1:(a0 != 2)=true:=bne_iff_ne.mpr c3;obtain rfl:=si H;go_enter Tryz.func322,Tryz.ntmps322;go_wp2;go_ret;exact ⟨xa,xd⟩
end Go.Proofs.YtbahacapnaohcaaGreatDoor.PB
