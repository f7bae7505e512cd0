import Derived.Test.YtbahacapnaohcaaGreatDoorA15
set_option linter.unusedVariables false
set_option linter.unusedSimpArgs false
namespace Go.Proofs.YtbahacapnaohcaaGreatDoor.PB
open Go.RowKit Go.Proofs.YtbahacapnaohcaaGreatDoorW.PrintWords Go.Proofs.YtbahacapnaohcaaGreatDoorW.PrintLast Go.Proofs.YtbahacapnaohcaaGreatDoorW.PrintMore
structure PRd (w:World) (A0:Option Addr) (c0:Nat) (l0:List S65) (A1:Option Addr) (c1:Nat) (l1:List ByteArray) (A2:Option Addr) (c2:Nat) (l2:List S63):Prop where
 r0:Kd.C k65 w A0 l0.length l0
 h0:l0.length≤c0
 r1:Kd.C Kd.string w A1 l1.length l1
 h1:l1.length≤c1
 r2:Kd.C k63 w A2 l2.length l2
 h2:l2.length≤c2
theorem PRd.below {w w1:World} {A0 c0 l0 A1 c1 l1 A2 c2 l2} (h:PRd w A0 c0 l0 A1 c1 l1 A2 c2 l2) (hb:Below w.heap.size w w1):PRd w1 A0 c0 l0 A1 c1 l1 A2 c2 l2:=
 ⟨Kd.C_below h.r0 hb,h.h0,Kd.C_below h.r1 hb,h.h1,Kd.C_below h.r2 hb,h.h2⟩
def SmallS (l:List ByteArray):Prop:=∀ x,x∈l→x.size<4294967281
structure SmallD (x:S65):Prop where
 name:x.f0.size<4294967281
 pars:SmallS x.f1
 body:SmallN x.f2.f0
structure SmallR (x:S63):Prop where
 left:SmallN x.f1.f0
 right:SmallN x.f2.f0
structure SmallP (l0:List S65) (l1:List ByteArray) (l2:List S63):Prop where
 defs:∀ x,x∈l0→SmallD x
 vars:SmallS l1
 rels:∀ x,x∈l2→SmallR x
theorem clo192 (w:World) (l:List ByteArray) (hs:SmallS l) (hG:GV w):Pred_s192 (fun s=>!nameB s) w l:=by
 intro x hx W hB;have HC:=am (NameOk_calls x (hs x hx) W (hG.below hB))
 show Calls _ _ _ _ fun e W'=>e=.returned (.bool (!nameB x))∧_
 clear hB hG hs hx;generalize nameB x=b at *
 cases b with
 | false=>
  go_enter Tryz.func192,Tryz.ntmps192;go_wp2_with fail;refine HC.out.mono ?_;rintro e w1 ⟨rfl,hb⟩;have HB:=am hb;clear hb;go_wp2_with fail;go_ret;exact ⟨rfl,HB.out⟩
 | true=>
  go_enter Tryz.func192,Tryz.ntmps192;go_wp2_with fail;refine HC.out.mono ?_;rintro e w1 ⟨rfl,hb⟩;have HB:=am hb;clear hb;go_wp2_with fail;go_ret;exact ⟨rfl,HB.out⟩
theorem clo193 (w:World) (l:List ByteArray) (hs:SmallS l) (hG:GV w):Pred_s193 (fun s=>!nameB s) w l:=by
 intro x hx W hB;have HC:=am (NameOk_calls x (hs x hx) W (hG.below hB))
 show Calls _ _ _ _ fun e W'=>e=.returned (.bool (!nameB x))∧_
 clear hB hG hs hx;generalize nameB x=b at *
 cases b with
 | false=>
  go_enter Tryz.func193,Tryz.ntmps193;go_wp2_with fail;refine HC.out.mono ?_;rintro e w1 ⟨rfl,hb⟩;have HB:=am hb;clear hb;go_wp2_with fail;go_ret;exact ⟨rfl,HB.out⟩
 | true=>
  go_enter Tryz.func193,Tryz.ntmps193;go_wp2_with fail;refine HC.out.mono ?_;rintro e w1 ⟨rfl,hb⟩;have HB:=am hb;clear hb;go_wp2_with fail;go_ret;exact ⟨rfl,HB.out⟩
noncomputable def defFormed (x:S65):Bool:=termOkB x.f2.f0&&(nameB x.f0&&!(x.f1.any fun s=>!nameB s))
noncomputable def relFormed (x:S63):Bool:=termOkB x.f1.f0&&(termOkB x.f2.f0&&(decide (1≤x.f0)&&decide (x.f0≤3)))
noncomputable def formedB (l0:List S65) (l1:List ByteArray) (l2:List S63):Bool:=l0.all defFormed&&(l2.all relFormed&&!(l1.any fun s=>!nameB s))
set_option maxHeartbeats 4000000 in
set_option maxRecDepth 100000 in
theorem formed_calls (A0:Option Addr) (c0:Nat) (l0:List S65) (A1:Option Addr) (c1:Nat) (l1:List ByteArray) (A2:Option Addr) (c2:Nat) (l2:List S63) (w:World) (hG:GV w) (hP:PRd w A0 c0 l0 A1 c1 l1 A2 c2 l2) (hS:SmallP l0 l1 l2) :
 Calls Tryz.prog 88 #[.agg #[.slice A0 l0.length c0,.slice A1 l1.length c1,.slice A2 l2.length c2]] w fun e w'=>e=.returned (.bool (formedB l0 l1 l2))∧Below w.heap.size w w':=by
 have HG:=am hG;have HP:=am hP;have HS:=am hS;clear hG hP hS;have hu38:=Tryz.underlying38;have hu65:=Tryz.underlying65;have hu63:=Tryz.underlying63;have n0:l0.length≤9223372036854775807:=HP.out.r0.2.1;have n2:l2.length≤9223372036854775807:=HP.out.r2.2.1;obtain ⟨r,hr⟩:∃ r,r=formedB l0 l1 l2:=⟨_,rfl⟩;rw [← hr];have HT:=am hr;clear hr;go_enter Tryz.func88,Tryz.ntmps88;go_wp2
 go_loopw [10] (fun i wr=>∃ (k:Nat),k≤l0.length∧i=.int .i64 k∧Aside0 ((l0.drop k).all defFormed=l0.all defFormed)∧Aside0 (Below w.heap.size w wr)∧wr.cell? ⟨w.heap.size,0,none⟩=some (.slice A0 l0.length c0)∧wr.cell? ⟨w.heap.size,1,none⟩=some (.slice A1 l1.length c1)∧wr.cell? ⟨w.heap.size,2,none⟩=some (.slice A2 l2.length c2)) (fun i _=>l0.length - (intOf i).toNat)
 case atStart=>exact ⟨0,Nat.zero_le _,rfl,⟨rfl⟩,⟨be⟩,by simp [go_sem],by simp [go_sem],by simp [go_sem]⟩
 case round=>
  obtain ⟨k,hk,rfl,HI,HB,hb0,hb1,hb2⟩:=hrel
  by_cases hlt:k<l0.length
  ·obtain ⟨ad,B1,d1,B2,d2,e0,hx0,hx1,hx2,z1,z2,z3,z4⟩:=at_T65 HP.out.r0 (k:Int) (by omega) (by omega);subst e0;rw [rdT65_get hlt] at hx0 hx1 hx2 z1 z2 z3 z4;obtain ⟨y,hy⟩:∃ y,y=l0[k]:=⟨_,rfl⟩;rw [← hy] at hx0 hx1 hx2 z1 z2 z3 z4;replace hx0:=(pb HB.out hx0);replace hx1:=(pb HB.out hx1);replace hx2:=(pb HB.out hx2);simp only [Int.toNat_natCast] at hx0 hx1 hx2;have HSd:=am (HS.out.defs y (by rw [hy];exact List.getElem_mem _));have HD:Aside0 (l0.drop k=y :: l0.drop (k+1)):=⟨(List.drop_eq_getElem_cons hlt).trans (by rw [← hy])⟩;have HI2:Aside0 ((defFormed y&&(l0.drop (k+1)).all defFormed)=l0.all defFormed):=⟨by have h:=HI.out;rw [HD.out] at h;exact h⟩;clear HI HD hy;have HR1:=am z2;have HR2:=am z4;clear z1 z2 z3 z4;have C1:=am (fun W h1 h2=>TermOk_calls B2 d2 y.f2.f0 HSd.out.body W h1 h2);have C2:=am (fun W h1=>NameOk_calls y.f0 HSd.out.name W h1);have C3:=am (fun W h1 h2=>contains_s192 (fun s=>!nameB s) B1 d1 y.f1 W h1 (clo192 W y.f1 HSd.out.pars h2));have HI3:Aside0 (((termOkB y.f2.f0&&(nameB y.f0&&!(y.f1.any fun s=>!nameB s)))&&(l0.drop (k+1)).all defFormed)=l0.all defFormed):=⟨HI2.out⟩;clear HI2 HSd;generalize termOkB y.f2.f0=b1 at *;generalize nameB y.f0=b2 at *;generalize (y.f1.any fun s=>!nameB s)=b3 at *
   cases b1 with
   | false=>
    have hv:r=false:=by rw [HT.out];unfold formedB;rw [← HI3.out];simp
    go_wp2_with (omega);refine (C1.out _ (HG.out.below (bo HB)) (Kd.C_below HR2.out (bo HB))).mono ?_;rintro e w1 ⟨rfl,hb⟩;have HB1:=am (below_step (w:=w) (bo HB) hb);obtain ⟨hc0,hf0⟩:=bcell (W:=(wr.alloc (.cells #[.string y.f0,.slice B1 y.f1.length d1,.slice B2 y.f2.f0.length d2] 65))) hb;have hq0:w1.cell? ⟨wr.heap.size,0,none⟩=some (.string y.f0):=by rw [hc0 _ _ (by simp)];simp [go_sem]
    have hq1:w1.cell? ⟨wr.heap.size,1,none⟩=some (.slice B1 y.f1.length d1):=by rw [hc0 _ _ (by simp)];simp [go_sem]
    have hq2:w1.cell? ⟨wr.heap.size,2,none⟩=some (.slice B2 y.f2.f0.length d2):=by rw [hc0 _ _ (by simp)];simp [go_sem]
    clear hc0 hf0;replace hb0:=pb (below_step (w:=wr) be hb) hb0;replace hb1:=pb (below_step (w:=wr) be hb) hb1;replace hb2:=pb (below_step (w:=wr) be hb) hb2;clear hb;go_wp2_with (omega)
    all_goals go_ret
    all_goals exact ⟨by first|rfl|(rw [hv];rfl)|(simp;done)|(simp [hv];done),HB1.out⟩
   | true=>
    cases b2 with
    | false=>
     have hv:r=false:=by rw [HT.out];unfold formedB;rw [← HI3.out];simp
     go_wp2_with (omega);refine (C1.out _ (HG.out.below (bo HB)) (Kd.C_below HR2.out (bo HB))).mono ?_;rintro e w1 ⟨rfl,hb⟩;have HB1:=am (below_step (w:=w) (bo HB) hb);obtain ⟨hc0,hf0⟩:=bcell (W:=(wr.alloc (.cells #[.string y.f0,.slice B1 y.f1.length d1,.slice B2 y.f2.f0.length d2] 65))) hb;have hq0:w1.cell? ⟨wr.heap.size,0,none⟩=some (.string y.f0):=by rw [hc0 _ _ (by simp)];simp [go_sem]
     have hq1:w1.cell? ⟨wr.heap.size,1,none⟩=some (.slice B1 y.f1.length d1):=by rw [hc0 _ _ (by simp)];simp [go_sem]
     have hq2:w1.cell? ⟨wr.heap.size,2,none⟩=some (.slice B2 y.f2.f0.length d2):=by rw [hc0 _ _ (by simp)];simp [go_sem]
     clear hc0 hf0;replace hb0:=pb (below_step (w:=wr) be hb) hb0;replace hb1:=pb (below_step (w:=wr) be hb) hb1;replace hb2:=pb (below_step (w:=wr) be hb) hb2;clear hb;go_wp2_with (omega);refine (C2.out _ (HG.out.below (bo HB1))).mono ?_;rintro e w2 ⟨rfl,hb⟩;have HB2:=am (below_step (w:=w) (bo HB1) hb);replace hb0:=pb (below_step (w:=w1) be hb) hb0;replace hb1:=pb (below_step (w:=w1) be hb) hb1;replace hb2:=pb (below_step (w:=w1) be hb) hb2;replace hq0:=pb (below_step (w:=w1) be hb) hq0;replace hq1:=pb (below_step (w:=w1) be hb) hq1;replace hq2:=pb (below_step (w:=w1) be hb) hq2;clear hb;go_wp2_with (omega)
     all_goals go_ret
     all_goals exact ⟨by first|rfl|(rw [hv];rfl)|(simp;done)|(simp [hv];done),HB2.out⟩
    | true=>
     cases b3 with
     | true=>
      have hv:r=false:=by rw [HT.out];unfold formedB;rw [← HI3.out];simp
      go_wp2_with (omega);refine (C1.out _ (HG.out.below (bo HB)) (Kd.C_below HR2.out (bo HB))).mono ?_;rintro e w1 ⟨rfl,hb⟩;have HB1:=am (below_step (w:=w) (bo HB) hb);obtain ⟨hc0,hf0⟩:=bcell (W:=(wr.alloc (.cells #[.string y.f0,.slice B1 y.f1.length d1,.slice B2 y.f2.f0.length d2] 65))) hb;have hq0:w1.cell? ⟨wr.heap.size,0,none⟩=some (.string y.f0):=by rw [hc0 _ _ (by simp)];simp [go_sem]
      have hq1:w1.cell? ⟨wr.heap.size,1,none⟩=some (.slice B1 y.f1.length d1):=by rw [hc0 _ _ (by simp)];simp [go_sem]
      have hq2:w1.cell? ⟨wr.heap.size,2,none⟩=some (.slice B2 y.f2.f0.length d2):=by rw [hc0 _ _ (by simp)];simp [go_sem]
      clear hc0 hf0;replace hb0:=pb (below_step (w:=wr) be hb) hb0;replace hb1:=pb (below_step (w:=wr) be hb) hb1;replace hb2:=pb (below_step (w:=wr) be hb) hb2;clear hb;go_wp2_with (omega);refine (C2.out _ (HG.out.below (bo HB1))).mono ?_;rintro e w2 ⟨rfl,hb⟩;have HB2:=am (below_step (w:=w) (bo HB1) hb);replace hb0:=pb (below_step (w:=w1) be hb) hb0;replace hb1:=pb (below_step (w:=w1) be hb) hb1;replace hb2:=pb (below_step (w:=w1) be hb) hb2;replace hq0:=pb (below_step (w:=w1) be hb) hq0;replace hq1:=pb (below_step (w:=w1) be hb) hq1;replace hq2:=pb (below_step (w:=w1) be hb) hq2;clear hb;go_wp2_with (omega);refine (C3.out _ (Kd.C_below HR1.out (bo HB2)) (HG.out.below (bo HB2))).mono ?_;rintro e w3 ⟨rfl,hb⟩;have HB3:=am (below_step (w:=w) (bo HB2) hb);replace hb0:=pb (below_step (w:=w2) be hb) hb0;replace hb1:=pb (below_step (w:=w2) be hb) hb1;replace hb2:=pb (below_step (w:=w2) be hb) hb2;replace hq0:=pb (below_step (w:=w2) be hb) hq0;replace hq1:=pb (below_step (w:=w2) be hb) hq1;replace hq2:=pb (below_step (w:=w2) be hb) hq2;clear hb;go_wp2_with (omega)
      all_goals go_ret
      all_goals exact ⟨by first|rfl|(rw [hv];rfl)|(simp;done)|(simp [hv];done),HB3.out⟩
     | false=>
      go_wp2_with (omega);refine (C1.out _ (HG.out.below (bo HB)) (Kd.C_below HR2.out (bo HB))).mono ?_;rintro e w1 ⟨rfl,hb⟩;have HB1:=am (below_step (w:=w) (bo HB) hb);obtain ⟨hc0,hf0⟩:=bcell (W:=(wr.alloc (.cells #[.string y.f0,.slice B1 y.f1.length d1,.slice B2 y.f2.f0.length d2] 65))) hb;have hq0:w1.cell? ⟨wr.heap.size,0,none⟩=some (.string y.f0):=by rw [hc0 _ _ (by simp)];simp [go_sem]
      have hq1:w1.cell? ⟨wr.heap.size,1,none⟩=some (.slice B1 y.f1.length d1):=by rw [hc0 _ _ (by simp)];simp [go_sem]
      have hq2:w1.cell? ⟨wr.heap.size,2,none⟩=some (.slice B2 y.f2.f0.length d2):=by rw [hc0 _ _ (by simp)];simp [go_sem]
      clear hc0 hf0;replace hb0:=pb (below_step (w:=wr) be hb) hb0;replace hb1:=pb (below_step (w:=wr) be hb) hb1;replace hb2:=pb (below_step (w:=wr) be hb) hb2;clear hb;go_wp2_with (omega);refine (C2.out _ (HG.out.below (bo HB1))).mono ?_;rintro e w2 ⟨rfl,hb⟩;have HB2:=am (below_step (w:=w) (bo HB1) hb);replace hb0:=pb (below_step (w:=w1) be hb) hb0;replace hb1:=pb (below_step (w:=w1) be hb) hb1;replace hb2:=pb (below_step (w:=w1) be hb) hb2;replace hq0:=pb (below_step (w:=w1) be hb) hq0;replace hq1:=pb (below_step (w:=w1) be hb) hq1;replace hq2:=pb (below_step (w:=w1) be hb) hq2;clear hb;go_wp2_with (omega);refine (C3.out _ (Kd.C_below HR1.out (bo HB2)) (HG.out.below (bo HB2))).mono ?_;rintro e w3 ⟨rfl,hb⟩;have HB3:=am (below_step (w:=w) (bo HB2) hb);replace hb0:=pb (below_step (w:=w2) be hb) hb0;replace hb1:=pb (below_step (w:=w2) be hb) hb1;replace hb2:=pb (below_step (w:=w2) be hb) hb2;replace hq0:=pb (below_step (w:=w2) be hb) hq0;replace hq1:=pb (below_step (w:=w2) be hb) hq1;replace hq2:=pb (below_step (w:=w2) be hb) hq2;clear hb;go_wp2_with (omega)
      go_roundw
      case rel=>exact ⟨k+1,by omega,by go_num,⟨by have h:=HI3.out;simpa using h⟩,HB3,hb0,hb1,hb2⟩
      case measure=>simp [intOf];omega
  ·have HD1:Aside0 (l0.all defFormed=true):=⟨by rw [← HI.out,List.drop_of_length_le (by omega)];rfl⟩;have HT2:Aside0 (r=(l2.all relFormed&&!(l1.any fun s=>!nameB s))):=⟨by rw [HT.out];unfold formedB;rw [HD1.out];rfl⟩;have HS1:=am HS.out.vars;go_wp2_with (omega)
   go_loopw [33] (fun i wr=>∃ (k:Nat),k≤l2.length∧i=.int .i64 k∧Aside0 ((l2.drop k).all relFormed=l2.all relFormed)∧Aside0 (Below w.heap.size w wr)∧wr.cell? ⟨w.heap.size,0,none⟩=some (.slice A0 l0.length c0)∧wr.cell? ⟨w.heap.size,1,none⟩=some (.slice A1 l1.length c1)∧wr.cell? ⟨w.heap.size,2,none⟩=some (.slice A2 l2.length c2)) (fun i _=>l2.length - (intOf i).toNat)
   case atStart=>exact ⟨0,Nat.zero_le _,rfl,⟨rfl⟩,HB,hb0,hb1,hb2⟩
   case round=>
    clear HI HB hb0 hb1 hb2 HT HD1 hlt hk
    rename_i wr0 wr
    obtain ⟨k,hk,rfl,HI,HB,hb0,hb1,hb2⟩:=hrel
    by_cases hlt:k<l2.length
    ·obtain ⟨ad,B1,d1,B2,d2,e0,hx0,hx1,hx2,z1,z2,z3,z4⟩:=at_T63 HP.out.r2 (k:Int) (by omega) (by omega);subst e0;rw [rdT63_get hlt] at hx0 hx1 hx2 z1 z2 z3 z4;obtain ⟨y,hy⟩:∃ y,y=l2[k]:=⟨_,rfl⟩;rw [← hy] at hx0 hx1 hx2 z1 z2 z3 z4;replace hx0:=(pb HB.out hx0);replace hx1:=(pb HB.out hx1);replace hx2:=(pb HB.out hx2);simp only [Int.toNat_natCast] at hx0 hx1 hx2;have HSd:=am (HS.out.rels y (by rw [hy];exact List.getElem_mem _));have HD:Aside0 (l2.drop k=y :: l2.drop (k+1)):=⟨(List.drop_eq_getElem_cons hlt).trans (by rw [← hy])⟩;have HI2:Aside0 ((relFormed y&&(l2.drop (k+1)).all relFormed)=l2.all relFormed):=⟨by have h:=HI.out;rw [HD.out] at h;exact h⟩;clear HI HD hy;have HR1:=am z2;have HR2:=am z4;clear z1 z2 z3 z4;have C1:=am (fun W h1 h2=>TermOk_calls B1 d1 y.f1.f0 HSd.out.left W h1 h2);have C2:=am (fun W h1 h2=>TermOk_calls B2 d2 y.f2.f0 HSd.out.right W h1 h2);have C3:=am (fun W=>in_calls y.f0 1 3 W);have HI3:Aside0 (((termOkB y.f1.f0&&(termOkB y.f2.f0&&(decide (1≤y.f0)&&decide (y.f0≤3))))&&(l2.drop (k+1)).all relFormed)=l2.all relFormed):=⟨HI2.out⟩;clear HI2 HSd;generalize termOkB y.f1.f0=b1 at *;generalize termOkB y.f2.f0=b2 at *;generalize (decide (1≤y.f0)&&decide (y.f0≤3))=b3 at *
     cases b1 with
     | false=>
      have hv:r=false:=by rw [HT2.out,← HI3.out];simp
      go_wp2_with (omega);refine (C1.out _ (HG.out.below (bo HB)) (Kd.C_below HR1.out (bo HB))).mono ?_;rintro e w1 ⟨rfl,hb⟩;have HB1:=am (below_step (w:=w) (bo HB) hb);obtain ⟨hc0,hf0⟩:=bcell (W:=(wr.alloc (.cells #[.int .i64 y.f0,.slice B1 y.f1.f0.length d1,.slice B2 y.f2.f0.length d2] 63))) hb;have hq0:w1.cell? ⟨wr.heap.size,0,none⟩=some (.int .i64 y.f0):=by rw [hc0 _ _ (by simp)];simp [go_sem]
      have hq1:w1.cell? ⟨wr.heap.size,1,none⟩=some (.slice B1 y.f1.f0.length d1):=by rw [hc0 _ _ (by simp)];simp [go_sem]
      have hq2:w1.cell? ⟨wr.heap.size,2,none⟩=some (.slice B2 y.f2.f0.length d2):=by rw [hc0 _ _ (by simp)];simp [go_sem]
      clear hc0 hf0;replace hb0:=pb (below_step (w:=wr) be hb) hb0;replace hb1:=pb (below_step (w:=wr) be hb) hb1;replace hb2:=pb (below_step (w:=wr) be hb) hb2;clear hb;go_wp2_with (omega)
      all_goals go_ret
      all_goals exact ⟨by first|rfl|(rw [hv];rfl)|(simp;done)|(simp [hv];done),HB1.out⟩
     | true=>
      cases b2 with
      | false=>
       have hv:r=false:=by rw [HT2.out,← HI3.out];simp
       go_wp2_with (omega);refine (C1.out _ (HG.out.below (bo HB)) (Kd.C_below HR1.out (bo HB))).mono ?_;rintro e w1 ⟨rfl,hb⟩;have HB1:=am (below_step (w:=w) (bo HB) hb);obtain ⟨hc0,hf0⟩:=bcell (W:=(wr.alloc (.cells #[.int .i64 y.f0,.slice B1 y.f1.f0.length d1,.slice B2 y.f2.f0.length d2] 63))) hb;have hq0:w1.cell? ⟨wr.heap.size,0,none⟩=some (.int .i64 y.f0):=by rw [hc0 _ _ (by simp)];simp [go_sem]
       have hq1:w1.cell? ⟨wr.heap.size,1,none⟩=some (.slice B1 y.f1.f0.length d1):=by rw [hc0 _ _ (by simp)];simp [go_sem]
       have hq2:w1.cell? ⟨wr.heap.size,2,none⟩=some (.slice B2 y.f2.f0.length d2):=by rw [hc0 _ _ (by simp)];simp [go_sem]
       clear hc0 hf0;replace hb0:=pb (below_step (w:=wr) be hb) hb0;replace hb1:=pb (below_step (w:=wr) be hb) hb1;replace hb2:=pb (below_step (w:=wr) be hb) hb2;clear hb;go_wp2_with (omega);refine (C2.out _ (HG.out.below (bo HB1)) (Kd.C_below HR2.out (bo HB1))).mono ?_;rintro e w2 ⟨rfl,hb⟩;have HB2:=am (below_step (w:=w) (bo HB1) hb);replace hb0:=pb (below_step (w:=w1) be hb) hb0;replace hb1:=pb (below_step (w:=w1) be hb) hb1;replace hb2:=pb (below_step (w:=w1) be hb) hb2;replace hq0:=pb (below_step (w:=w1) be hb) hq0;replace hq1:=pb (below_step (w:=w1) be hb) hq1;replace hq2:=pb (below_step (w:=w1) be hb) hq2;clear hb;go_wp2_with (omega)
       all_goals go_ret
       all_goals exact ⟨by first|rfl|(rw [hv];rfl)|(simp;done)|(simp [hv];done),HB2.out⟩
      | true=>
       cases b3 with
       | false=>
        have hv:r=false:=by rw [HT2.out,← HI3.out];simp
        go_wp2_with (omega);refine (C1.out _ (HG.out.below (bo HB)) (Kd.C_below HR1.out (bo HB))).mono ?_;rintro e w1 ⟨rfl,hb⟩;have HB1:=am (below_step (w:=w) (bo HB) hb);obtain ⟨hc0,hf0⟩:=bcell (W:=(wr.alloc (.cells #[.int .i64 y.f0,.slice B1 y.f1.f0.length d1,.slice B2 y.f2.f0.length d2] 63))) hb;have hq0:w1.cell? ⟨wr.heap.size,0,none⟩=some (.int .i64 y.f0):=by rw [hc0 _ _ (by simp)];simp [go_sem]
        have hq1:w1.cell? ⟨wr.heap.size,1,none⟩=some (.slice B1 y.f1.f0.length d1):=by rw [hc0 _ _ (by simp)];simp [go_sem]
        have hq2:w1.cell? ⟨wr.heap.size,2,none⟩=some (.slice B2 y.f2.f0.length d2):=by rw [hc0 _ _ (by simp)];simp [go_sem]
        clear hc0 hf0;replace hb0:=pb (below_step (w:=wr) be hb) hb0;replace hb1:=pb (below_step (w:=wr) be hb) hb1;replace hb2:=pb (below_step (w:=wr) be hb) hb2;clear hb;go_wp2_with (omega);refine (C2.out _ (HG.out.below (bo HB1)) (Kd.C_below HR2.out (bo HB1))).mono ?_;rintro e w2 ⟨rfl,hb⟩;have HB2:=am (below_step (w:=w) (bo HB1) hb);replace hb0:=pb (below_step (w:=w1) be hb) hb0;replace hb1:=pb (below_step (w:=w1) be hb) hb1;replace hb2:=pb (below_step (w:=w1) be hb) hb2;replace hq0:=pb (below_step (w:=w1) be hb) hq0;replace hq1:=pb (below_step (w:=w1) be hb) hq1;replace hq2:=pb (below_step (w:=w1) be hb) hq2;clear hb;go_wp2_with (omega);refine (C3.out _).mono ?_;rintro e w3 ⟨rfl,hb⟩;have HB3:=am (below_step (w:=w) (bo HB2) hb);replace hb0:=pb (below_step (w:=w2) be hb) hb0;replace hb1:=pb (below_step (w:=w2) be hb) hb1;replace hb2:=pb (below_step (w:=w2) be hb) hb2;replace hq0:=pb (below_step (w:=w2) be hb) hq0;replace hq1:=pb (below_step (w:=w2) be hb) hq1;replace hq2:=pb (below_step (w:=w2) be hb) hq2;clear hb;go_wp2_with (omega)
        all_goals go_ret
        all_goals exact ⟨by first|rfl|(rw [hv];rfl)|(simp;done)|(simp [hv];done),HB3.out⟩
       | true=>
        go_wp2_with (omega);refine (C1.out _ (HG.out.below (bo HB)) (Kd.C_below HR1.out (bo HB))).mono ?_;rintro e w1 ⟨rfl,hb⟩;have HB1:=am (below_step (w:=w) (bo HB) hb);obtain ⟨hc0,hf0⟩:=bcell (W:=(wr.alloc (.cells #[.int .i64 y.f0,.slice B1 y.f1.f0.length d1,.slice B2 y.f2.f0.length d2] 63))) hb;have hq0:w1.cell? ⟨wr.heap.size,0,none⟩=some (.int .i64 y.f0):=by rw [hc0 _ _ (by simp)];simp [go_sem]
        have hq1:w1.cell? ⟨wr.heap.size,1,none⟩=some (.slice B1 y.f1.f0.length d1):=by rw [hc0 _ _ (by simp)];simp [go_sem]
        have hq2:w1.cell? ⟨wr.heap.size,2,none⟩=some (.slice B2 y.f2.f0.length d2):=by rw [hc0 _ _ (by simp)];simp [go_sem]
        clear hc0 hf0;replace hb0:=pb (below_step (w:=wr) be hb) hb0;replace hb1:=pb (below_step (w:=wr) be hb) hb1;replace hb2:=pb (below_step (w:=wr) be hb) hb2;clear hb;go_wp2_with (omega);refine (C2.out _ (HG.out.below (bo HB1)) (Kd.C_below HR2.out (bo HB1))).mono ?_;rintro e w2 ⟨rfl,hb⟩;have HB2:=am (below_step (w:=w) (bo HB1) hb);replace hb0:=pb (below_step (w:=w1) be hb) hb0;replace hb1:=pb (below_step (w:=w1) be hb) hb1;replace hb2:=pb (below_step (w:=w1) be hb) hb2;replace hq0:=pb (below_step (w:=w1) be hb) hq0;replace hq1:=pb (below_step (w:=w1) be hb) hq1;replace hq2:=pb (below_step (w:=w1) be hb) hq2;clear hb;go_wp2_with (omega);refine (C3.out _).mono ?_;rintro e w3 ⟨rfl,hb⟩;have HB3:=am (below_step (w:=w) (bo HB2) hb);replace hb0:=pb (below_step (w:=w2) be hb) hb0;replace hb1:=pb (below_step (w:=w2) be hb) hb1;replace hb2:=pb (below_step (w:=w2) be hb) hb2;replace hq0:=pb (below_step (w:=w2) be hb) hq0;replace hq1:=pb (below_step (w:=w2) be hb) hq1;replace hq2:=pb (below_step (w:=w2) be hb) hq2;clear hb;go_wp2_with (omega)
        go_roundw
        case rel=>exact ⟨k+1,by omega,by go_num,⟨by have h:=HI3.out;simpa using h⟩,HB3,hb0,hb1,hb2⟩
        case measure=>simp [intOf];omega
    ·have HD2:Aside0 (l2.all relFormed=true):=⟨by rw [← HI.out,List.drop_of_length_le (by omega)];rfl⟩;have HT3:Aside0 (r=!(l1.any fun s=>!nameB s)):=⟨by rw [HT2.out,HD2.out];rfl⟩;have C1:=am (fun W h1 h2=>contains_s193 (fun s=>!nameB s) A1 c1 l1 W h1 (clo193 W l1 HS1.out h2));clear HT2 HI HD2;generalize (l1.any fun s=>!nameB s)=b at *;go_wp2_with (omega);refine (C1.out _ (Kd.C_below HP.out.r1 (bo HB)) (HG.out.below (bo HB))).mono ?_;rintro e w1 ⟨rfl,hb⟩;have HB1:=am (below_step (w:=w) (bo HB) hb);clear hb;go_wp2_with (omega);go_ret;exact ⟨by rw [HT3.out];rfl,HB1.out⟩
end Go.Proofs.YtbahacapnaohcaaGreatDoor.PB
