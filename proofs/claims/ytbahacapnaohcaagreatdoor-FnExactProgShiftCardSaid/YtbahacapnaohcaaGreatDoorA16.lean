import Derived.Test.YtbahacapnaohcaaGreatDoorA17
set_option linter.unusedVariables false
set_option linter.unusedSimpArgs false
namespace Go.Proofs.YtbahacapnaohcaaGreatDoor.PB
open Go.RowKit Go.Proofs.YtbahacapnaohcaaGreatDoorW.PrintWords Go.Proofs.YtbahacapnaohcaaGreatDoorW.PrintLast Go.Proofs.YtbahacapnaohcaaGreatDoorW.PrintMore
def memS (l:List ByteArray) (x:ByteArray):Bool:=decide (idxOf x l 0≥0)
theorem Contains_calls (A0:Option Addr) (c0:Nat) (l0:List ByteArray) (x:ByteArray) (w:World) (hr:Kd.C Kd.string w A0 l0.length l0) (hc:l0.length≤c0) :
 Calls Tryz.prog 79 #[.slice A0 l0.length c0,.string x] w fun e w'=>e=.returned (.bool (memS l0 x))∧Below w.heap.size w w':=by
 refine (slices_Contains_string_string.calls (l0.length+1) A0 c0 l0 x (memS l0 x) w hr hc (contains_f x l0 hr.2.1 _ (Nat.lt_succ_self _))).mono ?_;rintro e w' ⟨rfl,hd⟩;exact ⟨rfl,hd.below⟩
def defIdx (l0:List S65) (s:ByteArray):Int:=idxP (isNamed s) l0 0
theorem idxP_range {α:Type} (p:α→Bool):∀ (l:List α) (k:Nat),-1≤idxP p l k∧idxP p l k<(k:Int)+l.length∧(idxP p l k<0∨(k:Int)≤idxP p l k)
 | [],k=>by simp [idxP];omega
 | x :: l,k=>by
  have ih:=idxP_range p l (k+1)
  unfold idxP
  by_cases h:p x=true
  ·rw [if_pos h];simp only [List.length_cons];omega
  ·rw [if_neg h];simp only [List.length_cons];omega
theorem defIdx_range (l:List S65) (s:ByteArray) : -1≤defIdx l s∧defIdx l s<l.length:=by
 have:=idxP_range (isNamed s) l 0;unfold defIdx;omega
theorem defAt_calls (A0:Option Addr) (c0:Nat) (l0:List S65) (A1:Option Addr) (c1:Nat) (l1:List ByteArray) (A2:Option Addr) (c2:Nat) (l2:List S63) (s:ByteArray) (w:World) (hP:PRd w A0 c0 l0 A1 c1 l1 A2 c2 l2) :
 Calls Tryz.prog 113 #[.agg #[.slice A0 l0.length c0,.slice A1 l1.length c1,.slice A2 l2.length c2],.string s] w fun e w'=>e=.returned (.int .i64 (defIdx l0 s))∧Below w.heap.size w w':=
 impl_Prog_defAt.calls A0 c0 l0 A1 c1 l1 A2 c2 l2 s _ w hP.r0 hP.h0 hP.r1 hP.h1 hP.r2 hP.h2 rfl
def nodeFit (l0:List S65) (own:List ByteArray) (x:S102):Int:=
 if x.f0≠2∧x.f0≠13 then 0
 else if memS own x.f2=true then (if x.f0=13 then 9 else 0)
 else if defIdx l0 x.f2<0 then 8
 else if ((rd_T65 l0 (defIdx l0 x.f2)).f1.length:Int)≠x.f1 then 9 else 0
def fitsP (l0:List S65) (own:List ByteArray):List S102→Int
 | []=>0
 | x :: r=>if nodeFit l0 own x≠0 then nodeFit l0 own x else fitsP l0 own r
set_option maxHeartbeats 4000000 in
set_option maxRecDepth 100000 in
theorem fits_calls (A0:Option Addr) (c0:Nat) (l0:List S65) (A1:Option Addr) (c1:Nat) (l1:List ByteArray) (A2:Option Addr) (c2:Nat) (l2:List S63) (A3:Option Addr) (c3:Nat) (l3:List S102) (A4:Option Addr) (c4:Nat) (l4:List ByteArray) (w:World) (hP:PRd w A0 c0 l0 A1 c1 l1 A2 c2 l2)
 (hr3:Kd.C k102 w A3 l3.length l3) (hr4:Kd.C Kd.string w A4 l4.length l4) (hc4:l4.length≤c4) :
 Calls Tryz.prog 199 #[.agg #[.slice A0 l0.length c0,.slice A1 l1.length c1,.slice A2 l2.length c2],.slice A3 l3.length c3,.slice A4 l4.length c4] w fun e w'=>e=.returned (.int .i64 (fitsP l0 l4 l3))∧Below w.heap.size w w':=by
 have HP:=am hP;have HR3:=am hr3;have HR4:=am hr4;have HC4:=am hc4;clear hP hr3 hr4 hc4;have hu38:=Tryz.underlying38;have hu65:=Tryz.underlying65;have hu102:=Tryz.underlying102;have n0:l0.length≤9223372036854775807:=HP.out.r0.2.1;have n3:l3.length≤9223372036854775807:=HR3.out.2.1;obtain ⟨r,hr⟩:∃ r,r=fitsP l0 l4 l3:=⟨_,rfl⟩;rw [← hr];have HT:=am hr;clear hr;go_enter Tryz.func199,Tryz.ntmps199;go_wp2
 go_loopw [12] (fun i wr=>∃ (k:Nat),k≤l3.length∧i=.int .i64 k∧Aside0 (r=fitsP l0 l4 (l3.drop k))∧Aside0 (Below w.heap.size w wr)∧wr.cell? ⟨w.heap.size,0,none⟩=some (.slice A0 l0.length c0)∧wr.cell? ⟨w.heap.size,1,none⟩=some (.slice A1 l1.length c1)∧wr.cell? ⟨w.heap.size,2,none⟩=some (.slice A2 l2.length c2)) (fun i _=>l3.length - (intOf i).toNat)
 case atStart=>exact ⟨0,Nat.zero_le _,rfl,HT,⟨by exact be⟩,by simp [go_sem],by simp [go_sem],by simp [go_sem]⟩
 case round=>
  clear HT;obtain ⟨k,hk,rfl,HI,HB,hb0,hb1,hb2⟩:=hrel;have hz0:w.heap.size<wr.heap.size:=World.block_lt_of_cell? wr _ hb0
  by_cases hlt:k<l3.length
  ·obtain ⟨ad,e0,hx0,hx1,hx2⟩:=at_T102 HR3.out (k:Int) (by omega) (by omega);subst e0;rw [rdT102_get hlt] at hx0 hx1 hx2;obtain ⟨y,hy⟩:∃ y,y=l3[k]:=⟨_,rfl⟩;rw [← hy] at hx0 hx1 hx2;replace hx0:=(pb HB.out hx0);replace hx1:=(pb HB.out hx1);replace hx2:=(pb HB.out hx2);simp only [Int.toNat_natCast] at hx0 hx1 hx2;have HD:Aside0 (l3.drop k=y :: l3.drop (k+1)):=⟨(List.drop_eq_getElem_cons hlt).trans (by rw [← hy])⟩;have HI2:Aside0 (r=if nodeFit l0 l4 y≠0 then nodeFit l0 l4 y else fitsP l0 l4 (l3.drop (k+1))):=⟨by rw [HI.out,HD.out];rfl⟩;clear HI HD hy;have C1:Aside0 (∀ W,PRd W A0 c0 l0 A1 c1 l1 A2 c2 l2→Calls Tryz.prog 113 #[.agg #[.slice A0 l0.length c0,.slice A1 l1.length c1,.slice A2 l2.length c2],.string y.f2] W fun e w'=>e=.returned (.int .i64 (defIdx l0 y.f2))∧Below W.heap.size W w'):=⟨fun W h=>defAt_calls A0 c0 l0 A1 c1 l1 A2 c2 l2 y.f2 W h⟩;have C2:Aside0 (∀ W,Kd.C Kd.string W A4 l4.length l4→Calls Tryz.prog 79 #[.slice A4 l4.length c4,.string y.f2] W fun e w'=>e=.returned (.bool (memS l4 y.f2))∧Below W.heap.size W w'):=⟨fun W h=>Contains_calls A4 c4 l4 y.f2 W h HC4.out⟩;have HNF:Aside0 (nodeFit l0 l4 y=nodeFit l0 l4 y):=⟨rfl⟩;have HIR:=defIdx_range l0 y.f2
   by_cases hk1:y.f0≠2∧y.f0≠13
   ·have HI3:Aside0 (r=fitsP l0 l4 (l3.drop (k+1))):=⟨by rw [HI2.out];unfold nodeFit;rw [if_pos hk1];simp⟩;obtain ⟨k1,k2⟩:=hk1;have k3:(y.f0 != 2)=true:=by simpa using k1
    have k4:(y.f0 != 13)=true:=by simpa using k2
    go_wp2_with (omega)
    go_roundw
    case rel=>exact ⟨k+1,by omega,by go_num,HI3,⟨bo HB⟩,pb (w:=wr) be hb0,pb (w:=wr) be hb1,pb (w:=wr) be hb2⟩
    case measure=>simp [intOf];omega
   ·by_cases hk2:y.f0=13
    ·have HNF2:Aside0 (nodeFit l0 l4 y=if memS l4 y.f2=true then 9 else if defIdx l0 y.f2<0 then 8 else if ((rd_T65 l0 (defIdx l0 y.f2)).f1.length:Int)≠y.f1 then 9 else 0):=⟨by unfold nodeFit;rw [hk2];simp⟩;generalize memS l4 y.f2=mb at *;generalize hat:defIdx l0 y.f2=at0 at *;obtain ⟨hi1,hi2⟩:=HIR;rw [hk2] at hx0;clear hat
     cases mb with
     | true=>
      have hv:r=9:=by rw [HI2.out,HNF2.out];simp
      go_wp2_with (omega);refine (C1.out _ (HP.out.below (bo HB))).mono ?_;rintro e w1 ⟨rfl,hb⟩;have HB1:=am (below_step (w:=w) (bo HB) hb);obtain ⟨hc0,hf0⟩:=bcell (W:=(wr.alloc (.cells #[.int .i64 13,.int .i64 y.f1,.string y.f2] 102))) hb;have hq0:w1.cell? ⟨wr.heap.size,0,none⟩=some (.int .i64 13):=by rw [hc0 _ _ (by simp)];simp [go_sem]
      have hq1:w1.cell? ⟨wr.heap.size,1,none⟩=some (.int .i64 y.f1):=by rw [hc0 _ _ (by simp)];simp [go_sem]
      have hq2:w1.cell? ⟨wr.heap.size,2,none⟩=some (.string y.f2):=by rw [hc0 _ _ (by simp)];simp [go_sem]
      clear hc0 hf0;replace hb0:=pb (below_step (w:=wr) be hb) hb0;replace hb1:=pb (below_step (w:=wr) be hb) hb1;replace hb2:=pb (below_step (w:=wr) be hb) hb2;clear hb;go_wp2_with (omega);refine (C2.out _ (Kd.C_below HR4.out (bo HB1))).mono ?_;rintro e w2 ⟨rfl,hb⟩;have HB2:=am (below_step (w:=w) (bo HB1) hb);replace hb0:=pb (below_step (w:=w1) be hb) hb0;replace hb1:=pb (below_step (w:=w1) be hb) hb1;replace hb2:=pb (below_step (w:=w1) be hb) hb2;replace hq0:=pb (below_step (w:=w1) be hb) hq0;replace hq1:=pb (below_step (w:=w1) be hb) hq1;replace hq2:=pb (below_step (w:=w1) be hb) hq2;clear hb;go_wp2_with (omega)
      all_goals go_ret
      all_goals exact ⟨by first|rfl|(rw [hv];rfl)|(simp;done)|(simp [hv];done),HB2.out⟩
     | false=>
      by_cases hneg:at0<0
      ·have hv:r=8:=by rw [HI2.out,HNF2.out];simp [hneg]
       go_wp2_with (omega);refine (C1.out _ (HP.out.below (bo HB))).mono ?_;rintro e w1 ⟨rfl,hb⟩;have HB1:=am (below_step (w:=w) (bo HB) hb);obtain ⟨hc0,hf0⟩:=bcell (W:=(wr.alloc (.cells #[.int .i64 13,.int .i64 y.f1,.string y.f2] 102))) hb;have hq0:w1.cell? ⟨wr.heap.size,0,none⟩=some (.int .i64 13):=by rw [hc0 _ _ (by simp)];simp [go_sem]
       have hq1:w1.cell? ⟨wr.heap.size,1,none⟩=some (.int .i64 y.f1):=by rw [hc0 _ _ (by simp)];simp [go_sem]
       have hq2:w1.cell? ⟨wr.heap.size,2,none⟩=some (.string y.f2):=by rw [hc0 _ _ (by simp)];simp [go_sem]
       clear hc0 hf0;replace hb0:=pb (below_step (w:=wr) be hb) hb0;replace hb1:=pb (below_step (w:=wr) be hb) hb1;replace hb2:=pb (below_step (w:=wr) be hb) hb2;clear hb;go_wp2_with (omega);refine (C2.out _ (Kd.C_below HR4.out (bo HB1))).mono ?_;rintro e w2 ⟨rfl,hb⟩;have HB2:=am (below_step (w:=w) (bo HB1) hb);replace hb0:=pb (below_step (w:=w1) be hb) hb0;replace hb1:=pb (below_step (w:=w1) be hb) hb1;replace hb2:=pb (below_step (w:=w1) be hb) hb2;replace hq0:=pb (below_step (w:=w1) be hb) hq0;replace hq1:=pb (below_step (w:=w1) be hb) hq1;replace hq2:=pb (below_step (w:=w1) be hb) hq2;clear hb;go_wp2_with (omega)
       all_goals go_ret
       all_goals exact ⟨by first|rfl|(rw [hv];rfl)|(simp;done)|(simp [hv];done),HB2.out⟩
      ·obtain ⟨bd,B1,d1,B2,d2,e0,hy0,hy1,hy2,z1,z2,z3,z4⟩:=at_T65 HP.out.r0 at0 (by omega) (by omega);subst e0;clear hy0 hy2 z2 z3 z4;have hnl:(rd_T65 l0 at0).f1.length≤d1:=z1;generalize (rd_T65 l0 at0).f1.length=m at *;have HY1:=am hy1;clear hy1 z1;have hnn:decide (at0<0)=false:=decide_eq_false hneg
       by_cases hm:(m:Int)≠y.f1
       ·have hv:r=9:=by rw [HI2.out,HNF2.out];simp [hneg,hm]
        have hm2:((m:Int) != y.f1)=true:=by simpa using hm
        go_wp2_with (omega);refine (C1.out _ (HP.out.below (bo HB))).mono ?_;rintro e w1 ⟨rfl,hb⟩;have HB1:=am (below_step (w:=w) (bo HB) hb);obtain ⟨hc0,hf0⟩:=bcell (W:=(wr.alloc (.cells #[.int .i64 13,.int .i64 y.f1,.string y.f2] 102))) hb;have hq0:w1.cell? ⟨wr.heap.size,0,none⟩=some (.int .i64 13):=by rw [hc0 _ _ (by simp)];simp [go_sem]
        have hq1:w1.cell? ⟨wr.heap.size,1,none⟩=some (.int .i64 y.f1):=by rw [hc0 _ _ (by simp)];simp [go_sem]
        have hq2:w1.cell? ⟨wr.heap.size,2,none⟩=some (.string y.f2):=by rw [hc0 _ _ (by simp)];simp [go_sem]
        clear hc0 hf0;replace hb0:=pb (below_step (w:=wr) be hb) hb0;replace hb1:=pb (below_step (w:=wr) be hb) hb1;replace hb2:=pb (below_step (w:=wr) be hb) hb2;clear hb;go_wp2_with (omega);refine (C2.out _ (Kd.C_below HR4.out (bo HB1))).mono ?_;rintro e w2 ⟨rfl,hb⟩;have HB2:=am (below_step (w:=w) (bo HB1) hb);replace hb0:=pb (below_step (w:=w1) be hb) hb0;replace hb1:=pb (below_step (w:=w1) be hb) hb1;replace hb2:=pb (below_step (w:=w1) be hb) hb2;replace hq0:=pb (below_step (w:=w1) be hb) hq0;replace hq1:=pb (below_step (w:=w1) be hb) hq1;replace hq2:=pb (below_step (w:=w1) be hb) hq2;clear hb;have hy1:=pb HB2.out HY1.out;go_wp2_with (omega)
        go_quiet (fail)
        all_goals go_wp2_with (omega)
        all_goals go_ret
        all_goals exact ⟨by first|rfl|(rw [hv];rfl)|(simp;done)|(simp [hv];done),by exact bo HB2⟩
       ·have HI3:Aside0 (r=fitsP l0 l4 (l3.drop (k+1))):=⟨by rw [HI2.out,HNF2.out];simp [hneg];omega⟩;have hm2:((m:Int) != y.f1)=false:=by simpa using hm
        go_wp2_with (omega);refine (C1.out _ (HP.out.below (bo HB))).mono ?_;rintro e w1 ⟨rfl,hb⟩;have HB1:=am (below_step (w:=w) (bo HB) hb);obtain ⟨hc0,hf0⟩:=bcell (W:=(wr.alloc (.cells #[.int .i64 13,.int .i64 y.f1,.string y.f2] 102))) hb;have hq0:w1.cell? ⟨wr.heap.size,0,none⟩=some (.int .i64 13):=by rw [hc0 _ _ (by simp)];simp [go_sem]
        have hq1:w1.cell? ⟨wr.heap.size,1,none⟩=some (.int .i64 y.f1):=by rw [hc0 _ _ (by simp)];simp [go_sem]
        have hq2:w1.cell? ⟨wr.heap.size,2,none⟩=some (.string y.f2):=by rw [hc0 _ _ (by simp)];simp [go_sem]
        clear hc0 hf0;replace hb0:=pb (below_step (w:=wr) be hb) hb0;replace hb1:=pb (below_step (w:=wr) be hb) hb1;replace hb2:=pb (below_step (w:=wr) be hb) hb2;clear hb;go_wp2_with (omega);refine (C2.out _ (Kd.C_below HR4.out (bo HB1))).mono ?_;rintro e w2 ⟨rfl,hb⟩;have HB2:=am (below_step (w:=w) (bo HB1) hb);replace hb0:=pb (below_step (w:=w1) be hb) hb0;replace hb1:=pb (below_step (w:=w1) be hb) hb1;replace hb2:=pb (below_step (w:=w1) be hb) hb2;replace hq0:=pb (below_step (w:=w1) be hb) hq0;replace hq1:=pb (below_step (w:=w1) be hb) hq1;replace hq2:=pb (below_step (w:=w1) be hb) hq2;clear hb;have hy1:=pb HB2.out HY1.out;go_wp2_with (omega)
        go_quiet (fail)
        all_goals go_wp2_with (omega)
        go_roundw
        case rel=>exact ⟨k+1,by omega,by go_num,HI3,⟨bo HB2⟩,pb (w:=w2) be hb0,pb (w:=w2) be hb1,pb (w:=w2) be hb2⟩
        case measure=>simp [intOf];omega
    ·replace hk2:y.f0=2:=by omega
     clear hk1;have HNF2:Aside0 (nodeFit l0 l4 y=if memS l4 y.f2=true then 0 else if defIdx l0 y.f2<0 then 8 else if ((rd_T65 l0 (defIdx l0 y.f2)).f1.length:Int)≠y.f1 then 9 else 0):=⟨by unfold nodeFit;rw [hk2];simp⟩;generalize memS l4 y.f2=mb at *;generalize hat:defIdx l0 y.f2=at0 at *;obtain ⟨hi1,hi2⟩:=HIR;rw [hk2] at hx0;clear hat
     cases mb with
     | true=>
      have HI3:Aside0 (r=fitsP l0 l4 (l3.drop (k+1))):=⟨by rw [HI2.out,HNF2.out];simp⟩;go_wp2_with (omega);refine (C1.out _ (HP.out.below (bo HB))).mono ?_;rintro e w1 ⟨rfl,hb⟩;have HB1:=am (below_step (w:=w) (bo HB) hb);obtain ⟨hc0,hf0⟩:=bcell (W:=(wr.alloc (.cells #[.int .i64 2,.int .i64 y.f1,.string y.f2] 102))) hb;have hq0:w1.cell? ⟨wr.heap.size,0,none⟩=some (.int .i64 2):=by rw [hc0 _ _ (by simp)];simp [go_sem]
      have hq1:w1.cell? ⟨wr.heap.size,1,none⟩=some (.int .i64 y.f1):=by rw [hc0 _ _ (by simp)];simp [go_sem]
      have hq2:w1.cell? ⟨wr.heap.size,2,none⟩=some (.string y.f2):=by rw [hc0 _ _ (by simp)];simp [go_sem]
      clear hc0 hf0;replace hb0:=pb (below_step (w:=wr) be hb) hb0;replace hb1:=pb (below_step (w:=wr) be hb) hb1;replace hb2:=pb (below_step (w:=wr) be hb) hb2;clear hb;go_wp2_with (omega);refine (C2.out _ (Kd.C_below HR4.out (bo HB1))).mono ?_;rintro e w2 ⟨rfl,hb⟩;have HB2:=am (below_step (w:=w) (bo HB1) hb);replace hb0:=pb (below_step (w:=w1) be hb) hb0;replace hb1:=pb (below_step (w:=w1) be hb) hb1;replace hb2:=pb (below_step (w:=w1) be hb) hb2;replace hq0:=pb (below_step (w:=w1) be hb) hq0;replace hq1:=pb (below_step (w:=w1) be hb) hq1;replace hq2:=pb (below_step (w:=w1) be hb) hq2;clear hb;go_wp2_with (omega)
      go_roundw
      case rel=>exact ⟨k+1,by omega,by go_num,HI3,HB2,hb0,hb1,hb2⟩
      case measure=>simp [intOf];omega
     | false=>
      by_cases hneg:at0<0
      ·have hv:r=8:=by rw [HI2.out,HNF2.out];simp [hneg]
       go_wp2_with (omega);refine (C1.out _ (HP.out.below (bo HB))).mono ?_;rintro e w1 ⟨rfl,hb⟩;have HB1:=am (below_step (w:=w) (bo HB) hb);obtain ⟨hc0,hf0⟩:=bcell (W:=(wr.alloc (.cells #[.int .i64 2,.int .i64 y.f1,.string y.f2] 102))) hb;have hq0:w1.cell? ⟨wr.heap.size,0,none⟩=some (.int .i64 2):=by rw [hc0 _ _ (by simp)];simp [go_sem]
       have hq1:w1.cell? ⟨wr.heap.size,1,none⟩=some (.int .i64 y.f1):=by rw [hc0 _ _ (by simp)];simp [go_sem]
       have hq2:w1.cell? ⟨wr.heap.size,2,none⟩=some (.string y.f2):=by rw [hc0 _ _ (by simp)];simp [go_sem]
       clear hc0 hf0;replace hb0:=pb (below_step (w:=wr) be hb) hb0;replace hb1:=pb (below_step (w:=wr) be hb) hb1;replace hb2:=pb (below_step (w:=wr) be hb) hb2;clear hb;go_wp2_with (omega);refine (C2.out _ (Kd.C_below HR4.out (bo HB1))).mono ?_;rintro e w2 ⟨rfl,hb⟩;have HB2:=am (below_step (w:=w) (bo HB1) hb);replace hb0:=pb (below_step (w:=w1) be hb) hb0;replace hb1:=pb (below_step (w:=w1) be hb) hb1;replace hb2:=pb (below_step (w:=w1) be hb) hb2;replace hq0:=pb (below_step (w:=w1) be hb) hq0;replace hq1:=pb (below_step (w:=w1) be hb) hq1;replace hq2:=pb (below_step (w:=w1) be hb) hq2;clear hb;go_wp2_with (omega)
       all_goals go_ret
       all_goals exact ⟨by first|rfl|(rw [hv];rfl)|(simp;done)|(simp [hv];done),HB2.out⟩
      ·obtain ⟨bd,B1,d1,B2,d2,e0,hy0,hy1,hy2,z1,z2,z3,z4⟩:=at_T65 HP.out.r0 at0 (by omega) (by omega);subst e0;clear hy0 hy2 z2 z3 z4;have hnl:(rd_T65 l0 at0).f1.length≤d1:=z1;generalize (rd_T65 l0 at0).f1.length=m at *;have HY1:=am hy1;clear hy1 z1;have hnn:decide (at0<0)=false:=decide_eq_false hneg
       by_cases hm:(m:Int)≠y.f1
       ·have hv:r=9:=by rw [HI2.out,HNF2.out];simp [hneg,hm]
        have hm2:((m:Int) != y.f1)=true:=by simpa using hm
        go_wp2_with (omega);refine (C1.out _ (HP.out.below (bo HB))).mono ?_;rintro e w1 ⟨rfl,hb⟩;have HB1:=am (below_step (w:=w) (bo HB) hb);obtain ⟨hc0,hf0⟩:=bcell (W:=(wr.alloc (.cells #[.int .i64 2,.int .i64 y.f1,.string y.f2] 102))) hb;have hq0:w1.cell? ⟨wr.heap.size,0,none⟩=some (.int .i64 2):=by rw [hc0 _ _ (by simp)];simp [go_sem]
        have hq1:w1.cell? ⟨wr.heap.size,1,none⟩=some (.int .i64 y.f1):=by rw [hc0 _ _ (by simp)];simp [go_sem]
        have hq2:w1.cell? ⟨wr.heap.size,2,none⟩=some (.string y.f2):=by rw [hc0 _ _ (by simp)];simp [go_sem]
        clear hc0 hf0;replace hb0:=pb (below_step (w:=wr) be hb) hb0;replace hb1:=pb (below_step (w:=wr) be hb) hb1;replace hb2:=pb (below_step (w:=wr) be hb) hb2;clear hb;go_wp2_with (omega);refine (C2.out _ (Kd.C_below HR4.out (bo HB1))).mono ?_;rintro e w2 ⟨rfl,hb⟩;have HB2:=am (below_step (w:=w) (bo HB1) hb);replace hb0:=pb (below_step (w:=w1) be hb) hb0;replace hb1:=pb (below_step (w:=w1) be hb) hb1;replace hb2:=pb (below_step (w:=w1) be hb) hb2;replace hq0:=pb (below_step (w:=w1) be hb) hq0;replace hq1:=pb (below_step (w:=w1) be hb) hq1;replace hq2:=pb (below_step (w:=w1) be hb) hq2;clear hb;have hy1:=pb HB2.out HY1.out;go_wp2_with (omega)
        go_quiet (fail)
        all_goals go_wp2_with (omega)
        all_goals go_ret
        all_goals exact ⟨by first|rfl|(rw [hv];rfl)|(simp;done)|(simp [hv];done),by exact bo HB2⟩
       ·have HI3:Aside0 (r=fitsP l0 l4 (l3.drop (k+1))):=⟨by rw [HI2.out,HNF2.out];simp [hneg];omega⟩;have hm2:((m:Int) != y.f1)=false:=by simpa using hm
        go_wp2_with (omega);refine (C1.out _ (HP.out.below (bo HB))).mono ?_;rintro e w1 ⟨rfl,hb⟩;have HB1:=am (below_step (w:=w) (bo HB) hb);obtain ⟨hc0,hf0⟩:=bcell (W:=(wr.alloc (.cells #[.int .i64 2,.int .i64 y.f1,.string y.f2] 102))) hb;have hq0:w1.cell? ⟨wr.heap.size,0,none⟩=some (.int .i64 2):=by rw [hc0 _ _ (by simp)];simp [go_sem]
        have hq1:w1.cell? ⟨wr.heap.size,1,none⟩=some (.int .i64 y.f1):=by rw [hc0 _ _ (by simp)];simp [go_sem]
        have hq2:w1.cell? ⟨wr.heap.size,2,none⟩=some (.string y.f2):=by rw [hc0 _ _ (by simp)];simp [go_sem]
        clear hc0 hf0;replace hb0:=pb (below_step (w:=wr) be hb) hb0;replace hb1:=pb (below_step (w:=wr) be hb) hb1;replace hb2:=pb (below_step (w:=wr) be hb) hb2;clear hb;go_wp2_with (omega);refine (C2.out _ (Kd.C_below HR4.out (bo HB1))).mono ?_;rintro e w2 ⟨rfl,hb⟩;have HB2:=am (below_step (w:=w) (bo HB1) hb);replace hb0:=pb (below_step (w:=w1) be hb) hb0;replace hb1:=pb (below_step (w:=w1) be hb) hb1;replace hb2:=pb (below_step (w:=w1) be hb) hb2;replace hq0:=pb (below_step (w:=w1) be hb) hq0;replace hq1:=pb (below_step (w:=w1) be hb) hq1;replace hq2:=pb (below_step (w:=w1) be hb) hq2;clear hb;have hy1:=pb HB2.out HY1.out;go_wp2_with (omega)
        go_quiet (fail)
        all_goals go_wp2_with (omega)
        go_roundw
        case rel=>exact ⟨k+1,by omega,by go_num,HI3,⟨bo HB2⟩,pb (w:=w2) be hb0,pb (w:=w2) be hb1,pb (w:=w2) be hb2⟩
        case measure=>simp [intOf];omega
  ·have hv:r=0:=by rw [HI.out,List.drop_of_length_le (by omega)];rfl
   go_wp2_with (omega)
   all_goals go_ret
   all_goals exact ⟨by first|rfl|(rw [hv];rfl)|(simp;done)|(simp [hv];done),HB.out⟩
def isDef (l0:List S65) (s:ByteArray):Bool:=decide (0≤defIdx l0 s)
set_option maxHeartbeats 4000000 in
set_option maxRecDepth 100000 in
theorem clo198 (A0:Option Addr) (c0:Nat) (l0:List S65) (A1:Option Addr) (c1:Nat) (l1:List ByteArray) (A2:Option Addr) (c2:Nat) (l2:List S63) (gb:Nat) (w:World) (hP:PRd w A0 c0 l0 A1 c1 l1 A2 c2 l2) (h0:w.cell? ⟨gb,0,none⟩=some (.slice A0 l0.length c0)) (h1:w.cell? ⟨gb,1,none⟩=some (.slice A1 l1.length c1)) (h2:w.cell? ⟨gb,2,none⟩=some (.slice A2 l2.length c2)) (l:List ByteArray):Pred_s198 gb (isDef l0) w l:=by
 intro x hx W hB;have C:=am (defAt_calls A0 c0 l0 A1 c1 l1 A2 c2 l2 x W (hP.below hB));replace h0:=pb hB h0;replace h1:=pb hB h1;replace h2:=pb hB h2;clear hP hB hx
 unfold isDef
 have hu38:=Tryz.underlying38;generalize defIdx l0 x=k at *;go_enter Tryz.func198,Tryz.ntmps198;go_wp2_with fail;refine C.out.mono ?_;rintro e w1 ⟨rfl,hb⟩;have HB:=am hb;clear hb;go_wp2_with fail;go_ret;exact ⟨rfl,HB.out⟩
def defCodeP (l0:List S65) (x:S65):Int:=if x.f1.any (isDef l0)=true then 7 else fitsP l0 x.f1 x.f2.f0
set_option maxHeartbeats 4000000 in
set_option maxRecDepth 100000 in
theorem defCode_calls (A0:Option Addr) (c0:Nat) (l0:List S65) (A1:Option Addr) (c1:Nat) (l1:List ByteArray) (A2:Option Addr) (c2:Nat) (l2:List S63) (A3:Option Addr) (c3:Nat) (A4:Option Addr) (c4:Nat) (x:S65) (w:World) (hP:PRd w A0 c0 l0 A1 c1 l1 A2 c2 l2)
 (hr3:Kd.C Kd.string w A3 x.f1.length x.f1) (hc3:x.f1.length≤c3) (hr4:Kd.C k102 w A4 x.f2.f0.length x.f2.f0) :
 Calls Tryz.prog 91 #[.agg #[.slice A0 l0.length c0,.slice A1 l1.length c1,.slice A2 l2.length c2],.agg #[.string x.f0,.slice A3 x.f1.length c3,.slice A4 x.f2.f0.length c4]] w fun e w'=>e=.returned (.int .i64 (defCodeP l0 x))∧Below w.heap.size w w':=by
 have HP:=am hP;have HR3:=am hr3;have HC3:=am hc3;have HR4:=am hr4;clear hP hr3 hr4 hc3;have hu38:=Tryz.underlying38;have hu65:=Tryz.underlying65;obtain ⟨r,hr⟩:∃ r,r=defCodeP l0 x:=⟨_,rfl⟩;rw [← hr];have HT:Aside0 (r=if x.f1.any (isDef l0)=true then 7 else fitsP l0 x.f1 x.f2.f0):=⟨hr⟩;clear hr;have C1:Aside0 (∀ W gb,PRd W A0 c0 l0 A1 c1 l1 A2 c2 l2→W.cell? ⟨gb,0,none⟩=some (.slice A0 l0.length c0)→W.cell? ⟨gb,1,none⟩=some (.slice A1 l1.length c1)→W.cell? ⟨gb,2,none⟩=some (.slice A2 l2.length c2)→Kd.C Kd.string W A3 x.f1.length x.f1→Calls Tryz.prog 191 #[.slice A3 x.f1.length c3,.func (.func 198) #[] #[.pointer (some ⟨gb,0,none⟩)]] W fun e w'=>e=.returned (.bool (x.f1.any (isDef l0)))∧Below W.heap.size W w'):=
  ⟨fun W gb h h0 h1 h2 hr=>contains_s198 gb (isDef l0) A3 c3 x.f1 W hr (clo198 A0 c0 l0 A1 c1 l1 A2 c2 l2 gb W h h0 h1 h2 x.f1)⟩
 generalize x.f1.any (isDef l0)=b at *
 cases b with
 | true=>
  have hv:r=7:=by rw [HT.out];simp
  go_enter Tryz.func91,Tryz.ntmps91;go_wp2_with fail;refine (C1.out _ _ (HP.out.below be) ?s0 ?s1 ?s2 (Kd.C_below HR3.out be)).mono ?_
  case s0=>simp [go_sem]
  case s1=>simp [go_sem]
  case s2=>simp [go_sem]
  rintro e w1 ⟨rfl,hb⟩;have HB1:=am (below_step (w:=w) be hb);clear hb;go_wp2_with fail
  all_goals go_ret
  all_goals exact ⟨by first|rfl|(rw [hv];rfl)|(simp;done)|(simp [hv];done),HB1.out⟩
 | false=>
  have hv:r=fitsP l0 x.f1 x.f2.f0:=by rw [HT.out];simp
  have HV:=am hv;clear hv;go_enter Tryz.func91,Tryz.ntmps91;go_wp2_with fail;refine (C1.out _ _ (HP.out.below be) ?s0 ?s1 ?s2 (Kd.C_below HR3.out be)).mono ?_
  case s0=>simp [go_sem]
  case s1=>simp [go_sem]
  case s2=>simp [go_sem]
  rintro e w1 ⟨rfl,hb⟩;have HB1:=am (below_step (w:=w) be hb);obtain ⟨hc0,hf0⟩:=bcell (W:=((w.alloc (.cells #[.slice A0 l0.length c0,.slice A1 l1.length c1,.slice A2 l2.length c2] 38)).alloc (.cells #[.string x.f0,.slice A3 x.f1.length c3,.slice A4 x.f2.f0.length c4] 65))) hb;have hq0:w1.cell? ⟨w.heap.size,0,none⟩=some (.slice A0 l0.length c0):=by rw [hc0 _ _ (by simp;try omega)];simp [go_sem]
  have hq1:w1.cell? ⟨w.heap.size,1,none⟩=some (.slice A1 l1.length c1):=by rw [hc0 _ _ (by simp;try omega)];simp [go_sem]
  have hq2:w1.cell? ⟨w.heap.size,2,none⟩=some (.slice A2 l2.length c2):=by rw [hc0 _ _ (by simp;try omega)];simp [go_sem]
  have hq3:w1.cell? ⟨w.heap.size+1,1,none⟩=some (.slice A3 x.f1.length c3):=by rw [hc0 _ _ (by simp;try omega)];simp [go_sem]
  have hq4:w1.cell? ⟨w.heap.size+1,2,none⟩=some (.slice A4 x.f2.f0.length c4):=by rw [hc0 _ _ (by simp;try omega)];simp [go_sem]
  clear hc0 hf0 hb;go_wp2_with fail;refine (fits_calls A0 c0 l0 A1 c1 l1 A2 c2 l2 A4 c4 x.f2.f0 A3 c3 x.f1 _ (HP.out.below (bo HB1)) (Kd.C_below HR4.out (bo HB1)) (Kd.C_below HR3.out (bo HB1)) HC3.out).mono ?_;rintro e w2 ⟨rfl,hb⟩;have HB2:=am (below_step (w:=w) (bo HB1) hb);clear hb;go_wp2_with fail;go_ret;exact ⟨by rw [HV.out];rfl,HB2.out⟩
def relCodeP (l0:List S65) (l1:List ByteArray) (x:S63):Int:=fitsP l0 l1 (x.f1.f0++x.f2.f0)
set_option maxHeartbeats 4000000 in
set_option maxRecDepth 100000 in
theorem relCode_calls (A0:Option Addr) (c0:Nat) (l0:List S65) (A1:Option Addr) (c1:Nat) (l1:List ByteArray) (A2:Option Addr) (c2:Nat) (l2:List S63) (A3:Option Addr) (c3:Nat) (A4:Option Addr) (c4:Nat) (x:S63) (w:World) (hP:PRd w A0 c0 l0 A1 c1 l1 A2 c2 l2)
 (hr3:Kd.C k102 w A3 x.f1.f0.length x.f1.f0) (hr4:Kd.C k102 w A4 x.f2.f0.length x.f2.f0) (hn:x.f1.f0.length+x.f2.f0.length<4398046511104) :
 Calls Tryz.prog 92 #[.agg #[.slice A0 l0.length c0,.slice A1 l1.length c1,.slice A2 l2.length c2],.agg #[.int .i64 x.f0,.slice A3 x.f1.f0.length c3,.slice A4 x.f2.f0.length c4]] w fun e w'=>e=.returned (.int .i64 (relCodeP l0 l1 x))∧Below w.heap.size w w':=by
 have HP:=am hP;have HR3:=am hr3;have HN:=am hn;have HR4:=am hr4;clear hP hr3 hr4 hn;have hu38:=Tryz.underlying38;have hu63:=Tryz.underlying63;have hu25:=Tryz.underlying25;have HV:Aside0 (relCodeP l0 l1 x=fitsP l0 l1 (x.f1.f0++x.f2.f0)):=⟨rfl⟩;generalize relCodeP l0 l1 x=r at *;go_enter Tryz.func92,Tryz.ntmps92;go_wp2_with fail;obtain ⟨w0,hw0⟩:∃ w0,w0=((w.alloc (.cells #[.slice A0 l0.length c0,.slice A1 l1.length c1,.slice A2 l2.length c2] 38)).alloc (.cells #[.int .i64 x.f0,.slice A3 x.f1.f0.length c3,.slice A4 x.f2.f0.length c4] 63)):=⟨_,rfl⟩;have hq0:w0.drew.cell? ⟨w.heap.size,0,none⟩=some (.slice A0 l0.length c0):=by rw [hw0];simp [go_sem]
 have hq1:w0.drew.cell? ⟨w.heap.size,1,none⟩=some (.slice A1 l1.length c1):=by rw [hw0];simp [go_sem]
 have hq2:w0.drew.cell? ⟨w.heap.size,2,none⟩=some (.slice A2 l2.length c2):=by rw [hw0];simp [go_sem]
 have hq3:w0.drew.cell? ⟨w.heap.size+1,1,none⟩=some (.slice A3 x.f1.f0.length c3):=by rw [hw0];simp [go_sem]
 have hq4:w0.drew.cell? ⟨w.heap.size+1,2,none⟩=some (.slice A4 x.f2.f0.length c4):=by rw [hw0];simp [go_sem]
 have HB0:Aside0 (Below w.heap.size w w0):=⟨by rw [hw0];exact be⟩;rw [← hw0];clear hw0;refine start_ (n:=13) (S:=fun w'=>w'.cell? ⟨w.heap.size,0,none⟩=some (.slice A0 l0.length c0)∧w'.cell? ⟨w.heap.size,1,none⟩=some (.slice A1 l1.length c1)∧w'.cell? ⟨w.heap.size,2,none⟩=some (.slice A2 l2.length c2)∧w'.cell? ⟨w.heap.size+1,1,none⟩=some (.slice A3 x.f1.f0.length c3)∧w'.cell? ⟨w.heap.size+1,2,none⟩=some (.slice A4 x.f2.f0.length c4)) (ds:=[]) #[false,false,false,false,false,false,false,false,false,false,false,false,false] (by kernel_rfl) rfl rfl ⟨hq0,hq1,hq2,hq3,hq4⟩ (fun hHeld=>?_);refine pu 1 6 ?_;refine pu 2 7 ?_;refine pu 4 9 ?_;refine pu 5 10 ?_;refine pu 9 14 ?_;refine tk 0 5 hHeld ?_;refine tk 3 8 hHeld ?_;refine tk 6 11 hHeld ?_;refine tk 10 15 hHeld ?_;refine one_ (i:=7) (N:=some 12) #[true,true,true,true,true,true,true,true,false,true,true,false,false] rfl rfl (by kernel_rfl) (by decide) (fun K hK=>?_);refine value_ (w1:=?_) (v:=?_) (by rfl) rfl ?_ ?_;rotate_left 2
 ·go_simp
  constructor
  ·rfl
  ·rfl
 have hb7:Below w0.drew.heap.size w0.drew ((w0.alloc (.cells #[.slice A3 x.f1.f0.length c3,.slice A4 x.f2.f0.length c4] 23)).drew):=(show Below _ _ (w0.drew.alloc (.cells #[.slice A3 x.f1.f0.length c3,.slice A4 x.f2.f0.length c4] 23)) by exact be);have HB1:Aside0 (Below w.heap.size w ((w0.alloc (.cells #[.slice A3 x.f1.f0.length c3,.slice A4 x.f2.f0.length c4] 23)).drew)):=⟨bo HB0⟩;have hk0:((w0.alloc (.cells #[.slice A3 x.f1.f0.length c3,.slice A4 x.f2.f0.length c4] 23)).drew).cell? ⟨w0.heap.size,0,none⟩=some (.slice A3 x.f1.f0.length c3):=by simp [go_sem]
 have hk1:((w0.alloc (.cells #[.slice A3 x.f1.f0.length c3,.slice A4 x.f2.f0.length c4] 23)).drew).cell? ⟨w0.heap.size,1,none⟩=some (.slice A4 x.f2.f0.length c4):=by simp [go_sem]
 refine hK.out _ _ ⟨pb hb7 hHeld.1,pb hb7 hHeld.2.1,pb hb7 hHeld.2.2.1,pb hb7 hHeld.2.2.2.1,pb hb7 hHeld.2.2.2.2⟩ (fun hHeld=>?_);clear hK K;refine nr ?_;refine one_ (i:=8) (N:=some 13) #[true,true,true,true,true,true,true,true,true,true,true,false,false] rfl rfl (by kernel_rfl) (by decide) (fun K hK=>?_);refine goes_ Tryz.func200 (by kernel_rfl) rfl #[.slice (some ⟨w0.heap.size,0,none⟩) 2 2] (by rfl) rfl rfl (by simp only [List.map_toArray,List.map_cons,List.map_nil];rfl) ?_;with_reducible refine (concatT_calls w0.heap.size A3 c3 x.f1.f0 A4 c4 x.f2.f0 _ hk0 hk1 (Kd.C_below HR3.out HB1.out) (Kd.C_below HR4.out HB1.out) HN.out).mono ?_
 rintro e w3 ⟨v,rfl,ho,hb⟩;refine ⟨_,rfl,?_⟩;have HB3:=am (below_step (w:=w) HB1.out hb);obtain ⟨Av,cv,rfl,hlv,hrv⟩:=Kd.R_reads ho;have HRV:=am hrv;clear ho hlv hrv;refine hK.out _ _ ⟨pb hb hHeld.1,pb hb hHeld.2.1,pb hb hHeld.2.2.1,pb hb hHeld.2.2.2.1,pb hb hHeld.2.2.2.2⟩ (fun hHeld=>?_);clear hK K;refine nr ?_;refine one_ (i:=11) (N:=some 16) #[true,true,true,true,true,true,true,true,true,true,true,true,false] rfl rfl (by kernel_rfl) (by decide) (fun K hK=>?_);refine goes_ Tryz.func199 (by kernel_rfl) rfl #[.agg #[.slice A0 l0.length c0,.slice A1 l1.length c1,.slice A2 l2.length c2],.slice Av (x.f1.f0++x.f2.f0).length cv,.slice A1 l1.length c1] (by rfl) rfl rfl (by simp only [List.map_toArray,List.map_cons,List.map_nil];rfl) ?_;with_reducible refine (fits_calls A0 c0 l0 A1 c1 l1 A2 c2 l2 Av cv (x.f1.f0++x.f2.f0) A1 c1 l1 _ (HP.out.below HB3.out) HRV.out (Kd.C_below HP.out.r1 HB3.out) HP.out.h1).mono ?_
 rintro e w4 ⟨rfl,hb4⟩;refine ⟨_,rfl,?_⟩;have HB4:=am (below_step (w:=w) HB3.out hb4);refine hK.out _ _ ⟨pb hb4 hHeld.1,pb hb4 hHeld.2.1,pb hb4 hHeld.2.2.1,pb hb4 hHeld.2.2.2.1,pb hb4 hHeld.2.2.2.2⟩ (fun hHeld=>?_);clear hK K;refine nr ?_;refine pu 12 4 ?_;refine done_ (by kernel_rfl) ?_;go_wp2_with fail;go_ret;exact ⟨by rw [HV.out];rfl,HB4.out⟩
end Go.Proofs.YtbahacapnaohcaaGreatDoor.PB
