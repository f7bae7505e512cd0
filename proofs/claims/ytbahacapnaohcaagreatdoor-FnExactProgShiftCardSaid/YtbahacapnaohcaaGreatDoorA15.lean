import Derived.Test.YtbahacapnaohcaaGreatDoorExtD
import Derived.Test.YtbahacapnaohcaaGreatDoorExtC
set_option linter.unusedVariables false
set_option linter.unusedSimpArgs false
namespace Go.Proofs.YtbahacapnaohcaaGreatDoor.PB
open Go.RowKit Go.Proofs.YtbahacapnaohcaaGreatDoorW.PrintWords Go.Proofs.YtbahacapnaohcaaGreatDoorW.PrintLast Go.Proofs.YtbahacapnaohcaaGreatDoorW.PrintMore
theorem NameOk_calls (s:ByteArray) (hs:s.size<4294967281) (w:World) (hG:GV w) :
 Calls Tryz.prog 78 #[.string s] w fun e w'=>e=.returned (.bool (nameB s))∧Below w.heap.size w w':=by
 refine (impl_LangNameOk.calls s (nameB s) w hG (by unfold impl_LangNameOk.f;rw [if_pos (by omega)])).mono ?_;rintro e w' ⟨rfl,hd⟩;exact ⟨rfl,hd.below⟩
theorem in_calls (a b c:Int) (w:World):Calls Tryz.prog 94 #[.int .i64 a,.int .i64 b,.int .i64 c] w fun e w'=>e=.returned (.bool (decide (b≤a)&&decide (a≤c)))∧Below w.heap.size w w':=by
 refine (impl_in.calls a b c (decide (b≤a)&&decide (a≤c)) w ?_).mono ?_
 ·unfold impl_in.f
  by_cases h:b≤a
  ·rw [if_pos h,decide_eq_true h];rfl
  ·rw [if_neg h,decide_eq_false h];rfl
 rintro e w' ⟨rfl,hd⟩;exact ⟨rfl,hd.below⟩
noncomputable def partsK (k n:Int) (t:ByteArray):Int:=
 if k=1 then (if n=0∧numB t=true then 0 else -1)
 else if k=2 then (if n=0∧nameB t=true then 0 else -1)
 else if k=3∨k=9∨k=10 then (if n=0∧t=⟨#[]⟩ then 1 else -1)
 else if k=4∨k=5∨k=6∨k=7∨k=11∨k=12 then (if n=0∧t=⟨#[]⟩ then 2 else -1)
 else if k=8 then (if (0≤n∧n≤8)∧t=⟨#[]⟩ then 1 else -1)
 else if k=13 then (if (1≤n∧n≤6)∧nameB t=true then n else -1)
 else -1
theorem ne_empty (t:ByteArray) (h:¬ t=⟨#[]⟩):t.toList.isEmpty=false:=by
 rw [Bool.eq_false_iff];intro q;apply h;have:=Lib.toList_data t;rw [List.isEmpty_iff] at q;rw [q] at this
 apply ByteArray.ext;apply Array.ext';rw [← this]
set_option maxHeartbeats 4000000 in
set_option maxRecDepth 100000 in
theorem parts_calls (k n:Int) (t:ByteArray) (ht:t.size<4294967281) (w:World) (hG:GV w) :
 Calls Tryz.prog 162 #[.agg #[.int .i64 k,.int .i64 n,.string t]] w fun e w'=>e=.returned (.int .i64 (partsK k n t))∧Below w.heap.size w w':=by
 have HG:=am hG;have HT:=am ht;clear hG ht;have hu102:=Tryz.underlying102;obtain ⟨r,hr⟩:∃ r,r=partsK k n t:=⟨_,rfl⟩;rw [← hr]
 unfold partsK at hr
 have HNum:Aside0 (∀ w,GV w→Calls Tryz.prog 179 #[.string t] w fun e w'=>e=.returned (.bool (numB t))∧Below w.heap.size w w'):=⟨fun w h=>NumOk_calls t HT.out w h⟩;have HName:Aside0 (∀ w,GV w→Calls Tryz.prog 78 #[.string t] w fun e w'=>e=.returned (.bool (nameB t))∧Below w.heap.size w w'):=⟨fun w h=>NameOk_calls t HT.out w h⟩;generalize numB t=bn at *;generalize nameB t=bm at *;clear HT
 by_cases h0:n=0
 ·subst h0
  by_cases ht:t=⟨#[]⟩
  ·subst ht;have HR:=am hr;clear hr
   by_cases k1:k=1
   ·subst k1
    cases bn with
    | false=>
     go_enter Tryz.func162,Tryz.ntmps162;go_wp2_with omega;refine (HNum.out _ (HG.out.below be)).mono ?_;rintro e w1 ⟨rfl,hb⟩;obtain ⟨hc0,hf0⟩:=bcell (W:=(w.alloc (.cells #[.int .i64 1,.int .i64 0,.string ⟨#[]⟩] 102))) hb;have hx1:w1.cell? ⟨w.heap.size,1,none⟩=some (.int .i64 0):=by rw [hc0 _ _ (by simp)];simp [go_sem]
     have hx2:w1.cell? ⟨w.heap.size,2,none⟩=some (.string ⟨#[]⟩):=by rw [hc0 _ _ (by simp)];simp [go_sem]
     clear hc0 hf0;have HB1:=am (below_step (w:=w) be hb);clear hb;go_wp2_with omega;have hv:r = -1:=by rw [HR.out];simp
     go_ret;exact ⟨by rw [hv];rfl,HB1.out⟩
    | true=>
     go_enter Tryz.func162,Tryz.ntmps162;go_wp2_with omega;refine (HNum.out _ (HG.out.below be)).mono ?_;rintro e w1 ⟨rfl,hb⟩;obtain ⟨hc0,hf0⟩:=bcell (W:=(w.alloc (.cells #[.int .i64 1,.int .i64 0,.string ⟨#[]⟩] 102))) hb;have hx1:w1.cell? ⟨w.heap.size,1,none⟩=some (.int .i64 0):=by rw [hc0 _ _ (by simp)];simp [go_sem]
     have hx2:w1.cell? ⟨w.heap.size,2,none⟩=some (.string ⟨#[]⟩):=by rw [hc0 _ _ (by simp)];simp [go_sem]
     clear hc0 hf0;have HB1:=am (below_step (w:=w) be hb);clear hb;go_wp2_with omega;have hv:r=0:=by rw [HR.out];simp
     go_ret;exact ⟨by rw [hv];rfl,HB1.out⟩
   by_cases k2:k=2
   ·subst k2
    cases bm with
    | false=>
     go_enter Tryz.func162,Tryz.ntmps162;go_wp2_with omega;refine (HName.out _ (HG.out.below be)).mono ?_;rintro e w1 ⟨rfl,hb⟩;obtain ⟨hc0,hf0⟩:=bcell (W:=(w.alloc (.cells #[.int .i64 2,.int .i64 0,.string ⟨#[]⟩] 102))) hb;have hx1:w1.cell? ⟨w.heap.size,1,none⟩=some (.int .i64 0):=by rw [hc0 _ _ (by simp)];simp [go_sem]
     have hx2:w1.cell? ⟨w.heap.size,2,none⟩=some (.string ⟨#[]⟩):=by rw [hc0 _ _ (by simp)];simp [go_sem]
     clear hc0 hf0;have HB1:=am (below_step (w:=w) be hb);clear hb;go_wp2_with omega;have hv:r = -1:=by rw [HR.out];simp
     go_ret;exact ⟨by rw [hv];rfl,HB1.out⟩
    | true=>
     go_enter Tryz.func162,Tryz.ntmps162;go_wp2_with omega;refine (HName.out _ (HG.out.below be)).mono ?_;rintro e w1 ⟨rfl,hb⟩;obtain ⟨hc0,hf0⟩:=bcell (W:=(w.alloc (.cells #[.int .i64 2,.int .i64 0,.string ⟨#[]⟩] 102))) hb;have hx1:w1.cell? ⟨w.heap.size,1,none⟩=some (.int .i64 0):=by rw [hc0 _ _ (by simp)];simp [go_sem]
     have hx2:w1.cell? ⟨w.heap.size,2,none⟩=some (.string ⟨#[]⟩):=by rw [hc0 _ _ (by simp)];simp [go_sem]
     clear hc0 hf0;have HB1:=am (below_step (w:=w) be hb);clear hb;go_wp2_with omega;have hv:r=0:=by rw [HR.out];simp
     go_ret;exact ⟨by rw [hv];rfl,HB1.out⟩
   by_cases k3:k=3
   ·subst k3;go_enter Tryz.func162,Tryz.ntmps162;go_wp2_with omega;have hv:r=1:=by rw [HR.out];simp
    go_ret;exact ⟨by rw [hv];rfl,be⟩
   by_cases k4:k=4
   ·subst k4;go_enter Tryz.func162,Tryz.ntmps162;go_wp2_with omega;have hv:r=2:=by rw [HR.out];simp
    go_ret;exact ⟨by rw [hv];rfl,be⟩
   by_cases k5:k=5
   ·subst k5;go_enter Tryz.func162,Tryz.ntmps162;go_wp2_with omega;have hv:r=2:=by rw [HR.out];simp
    go_ret;exact ⟨by rw [hv];rfl,be⟩
   by_cases k6:k=6
   ·subst k6;go_enter Tryz.func162,Tryz.ntmps162;go_wp2_with omega;have hv:r=2:=by rw [HR.out];simp
    go_ret;exact ⟨by rw [hv];rfl,be⟩
   by_cases k7:k=7
   ·subst k7;go_enter Tryz.func162,Tryz.ntmps162;go_wp2_with omega;have hv:r=2:=by rw [HR.out];simp
    go_ret;exact ⟨by rw [hv];rfl,be⟩
   by_cases k8:k=8
   ·subst k8;go_enter Tryz.func162,Tryz.ntmps162;go_wp2_with omega;refine (in_calls _ _ _ _).mono ?_;rintro e w1 ⟨rfl,hb⟩;obtain ⟨hc0,hf0⟩:=bcell (W:=(w.alloc (.cells #[.int .i64 8,.int .i64 0,.string ⟨#[]⟩] 102))) hb;have hx1:w1.cell? ⟨w.heap.size,1,none⟩=some (.int .i64 0):=by rw [hc0 _ _ (by simp)];simp [go_sem]
    have hx2:w1.cell? ⟨w.heap.size,2,none⟩=some (.string ⟨#[]⟩):=by rw [hc0 _ _ (by simp)];simp [go_sem]
    clear hc0 hf0;have HB1:=am (below_step (w:=w) be hb);clear hb;go_wp2_with omega;have hv:r=1:=by rw [HR.out];simp
    go_ret;exact ⟨by rw [hv];rfl,HB1.out⟩
   by_cases k9:k=9
   ·subst k9;go_enter Tryz.func162,Tryz.ntmps162;go_wp2_with omega;have hv:r=1:=by rw [HR.out];simp
    go_ret;exact ⟨by rw [hv];rfl,be⟩
   by_cases k10:k=10
   ·subst k10;go_enter Tryz.func162,Tryz.ntmps162;go_wp2_with omega;have hv:r=1:=by rw [HR.out];simp
    go_ret;exact ⟨by rw [hv];rfl,be⟩
   by_cases k11:k=11
   ·subst k11;go_enter Tryz.func162,Tryz.ntmps162;go_wp2_with omega;have hv:r=2:=by rw [HR.out];simp
    go_ret;exact ⟨by rw [hv];rfl,be⟩
   by_cases k12:k=12
   ·subst k12;go_enter Tryz.func162,Tryz.ntmps162;go_wp2_with omega;have hv:r=2:=by rw [HR.out];simp
    go_ret;exact ⟨by rw [hv];rfl,be⟩
   by_cases k13:k=13
   ·subst k13;go_enter Tryz.func162,Tryz.ntmps162;go_wp2_with omega;refine (in_calls _ _ _ _).mono ?_;rintro e w1 ⟨rfl,hb⟩;obtain ⟨hc0,hf0⟩:=bcell (W:=(w.alloc (.cells #[.int .i64 13,.int .i64 0,.string ⟨#[]⟩] 102))) hb;have hx1:w1.cell? ⟨w.heap.size,1,none⟩=some (.int .i64 0):=by rw [hc0 _ _ (by simp)];simp [go_sem]
    have hx2:w1.cell? ⟨w.heap.size,2,none⟩=some (.string ⟨#[]⟩):=by rw [hc0 _ _ (by simp)];simp [go_sem]
    clear hc0 hf0;have HB1:=am (below_step (w:=w) be hb);clear hb;go_wp2_with omega;have hv:r = -1:=by rw [HR.out];simp
    go_ret;exact ⟨by rw [hv];rfl,HB1.out⟩
   go_enter Tryz.func162,Tryz.ntmps162;go_wp2_with omega;have hv:r = -1:=by rw [HR.out];rw [if_neg k1,if_neg k2,if_neg (by omega),if_neg (by omega),if_neg k8,if_neg k13]
   go_ret;exact ⟨by rw [hv];rfl,be⟩
  ·have HE:=am ht;have hte:t.toList.isEmpty=false:=ne_empty t ht;have HR:=am hr;clear hr
   by_cases k1:k=1
   ·subst k1
    cases bn with
    | false=>
     go_enter Tryz.func162,Tryz.ntmps162;go_wp2_with (first|omega|(rename_i hx;rw [hte] at hx;cases hx));refine (HNum.out _ (HG.out.below be)).mono ?_;rintro e w1 ⟨rfl,hb⟩;obtain ⟨hc0,hf0⟩:=bcell (W:=(w.alloc (.cells #[.int .i64 1,.int .i64 0,.string t] 102))) hb;have hx1:w1.cell? ⟨w.heap.size,1,none⟩=some (.int .i64 0):=by rw [hc0 _ _ (by simp)];simp [go_sem]
     have hx2:w1.cell? ⟨w.heap.size,2,none⟩=some (.string t):=by rw [hc0 _ _ (by simp)];simp [go_sem]
     clear hc0 hf0;have HB1:=am (below_step (w:=w) be hb);clear hb;go_wp2_with (first|omega|(rename_i hx;rw [hte] at hx;cases hx));have hv:r = -1:=by rw [HR.out];simp [HE.out]
     go_ret;exact ⟨by rw [hv];rfl,HB1.out⟩
    | true=>
     go_enter Tryz.func162,Tryz.ntmps162;go_wp2_with (first|omega|(rename_i hx;rw [hte] at hx;cases hx));refine (HNum.out _ (HG.out.below be)).mono ?_;rintro e w1 ⟨rfl,hb⟩;obtain ⟨hc0,hf0⟩:=bcell (W:=(w.alloc (.cells #[.int .i64 1,.int .i64 0,.string t] 102))) hb;have hx1:w1.cell? ⟨w.heap.size,1,none⟩=some (.int .i64 0):=by rw [hc0 _ _ (by simp)];simp [go_sem]
     have hx2:w1.cell? ⟨w.heap.size,2,none⟩=some (.string t):=by rw [hc0 _ _ (by simp)];simp [go_sem]
     clear hc0 hf0;have HB1:=am (below_step (w:=w) be hb);clear hb;go_wp2_with (first|omega|(rename_i hx;rw [hte] at hx;cases hx));have hv:r=0:=by rw [HR.out];simp [HE.out]
     go_ret;exact ⟨by rw [hv];rfl,HB1.out⟩
   by_cases k2:k=2
   ·subst k2
    cases bm with
    | false=>
     go_enter Tryz.func162,Tryz.ntmps162;go_wp2_with (first|omega|(rename_i hx;rw [hte] at hx;cases hx));refine (HName.out _ (HG.out.below be)).mono ?_;rintro e w1 ⟨rfl,hb⟩;obtain ⟨hc0,hf0⟩:=bcell (W:=(w.alloc (.cells #[.int .i64 2,.int .i64 0,.string t] 102))) hb;have hx1:w1.cell? ⟨w.heap.size,1,none⟩=some (.int .i64 0):=by rw [hc0 _ _ (by simp)];simp [go_sem]
     have hx2:w1.cell? ⟨w.heap.size,2,none⟩=some (.string t):=by rw [hc0 _ _ (by simp)];simp [go_sem]
     clear hc0 hf0;have HB1:=am (below_step (w:=w) be hb);clear hb;go_wp2_with (first|omega|(rename_i hx;rw [hte] at hx;cases hx));have hv:r = -1:=by rw [HR.out];simp [HE.out]
     go_ret;exact ⟨by rw [hv];rfl,HB1.out⟩
    | true=>
     go_enter Tryz.func162,Tryz.ntmps162;go_wp2_with (first|omega|(rename_i hx;rw [hte] at hx;cases hx));refine (HName.out _ (HG.out.below be)).mono ?_;rintro e w1 ⟨rfl,hb⟩;obtain ⟨hc0,hf0⟩:=bcell (W:=(w.alloc (.cells #[.int .i64 2,.int .i64 0,.string t] 102))) hb;have hx1:w1.cell? ⟨w.heap.size,1,none⟩=some (.int .i64 0):=by rw [hc0 _ _ (by simp)];simp [go_sem]
     have hx2:w1.cell? ⟨w.heap.size,2,none⟩=some (.string t):=by rw [hc0 _ _ (by simp)];simp [go_sem]
     clear hc0 hf0;have HB1:=am (below_step (w:=w) be hb);clear hb;go_wp2_with (first|omega|(rename_i hx;rw [hte] at hx;cases hx));have hv:r=0:=by rw [HR.out];simp [HE.out]
     go_ret;exact ⟨by rw [hv];rfl,HB1.out⟩
   by_cases k3:k=3
   ·subst k3;go_enter Tryz.func162,Tryz.ntmps162;go_wp2_with (first|omega|(rename_i hx;rw [hte] at hx;cases hx));have hv:r = -1:=by rw [HR.out];simp [HE.out]
    go_ret;exact ⟨by rw [hv];rfl,be⟩
   by_cases k4:k=4
   ·subst k4;go_enter Tryz.func162,Tryz.ntmps162;go_wp2_with (first|omega|(rename_i hx;rw [hte] at hx;cases hx));have hv:r = -1:=by rw [HR.out];simp [HE.out]
    go_ret;exact ⟨by rw [hv];rfl,be⟩
   by_cases k5:k=5
   ·subst k5;go_enter Tryz.func162,Tryz.ntmps162;go_wp2_with (first|omega|(rename_i hx;rw [hte] at hx;cases hx));have hv:r = -1:=by rw [HR.out];simp [HE.out]
    go_ret;exact ⟨by rw [hv];rfl,be⟩
   by_cases k6:k=6
   ·subst k6;go_enter Tryz.func162,Tryz.ntmps162;go_wp2_with (first|omega|(rename_i hx;rw [hte] at hx;cases hx));have hv:r = -1:=by rw [HR.out];simp [HE.out]
    go_ret;exact ⟨by rw [hv];rfl,be⟩
   by_cases k7:k=7
   ·subst k7;go_enter Tryz.func162,Tryz.ntmps162;go_wp2_with (first|omega|(rename_i hx;rw [hte] at hx;cases hx));have hv:r = -1:=by rw [HR.out];simp [HE.out]
    go_ret;exact ⟨by rw [hv];rfl,be⟩
   by_cases k8:k=8
   ·subst k8;go_enter Tryz.func162,Tryz.ntmps162;go_wp2_with (first|omega|(rename_i hx;rw [hte] at hx;cases hx));refine (in_calls _ _ _ _).mono ?_;rintro e w1 ⟨rfl,hb⟩;obtain ⟨hc0,hf0⟩:=bcell (W:=(w.alloc (.cells #[.int .i64 8,.int .i64 0,.string t] 102))) hb;have hx1:w1.cell? ⟨w.heap.size,1,none⟩=some (.int .i64 0):=by rw [hc0 _ _ (by simp)];simp [go_sem]
    have hx2:w1.cell? ⟨w.heap.size,2,none⟩=some (.string t):=by rw [hc0 _ _ (by simp)];simp [go_sem]
    clear hc0 hf0;have HB1:=am (below_step (w:=w) be hb);clear hb;go_wp2_with (first|omega|(rename_i hx;rw [hte] at hx;cases hx));have hv:r = -1:=by rw [HR.out];simp [HE.out]
    go_ret;exact ⟨by rw [hv];rfl,HB1.out⟩
   by_cases k9:k=9
   ·subst k9;go_enter Tryz.func162,Tryz.ntmps162;go_wp2_with (first|omega|(rename_i hx;rw [hte] at hx;cases hx));have hv:r = -1:=by rw [HR.out];simp [HE.out]
    go_ret;exact ⟨by rw [hv];rfl,be⟩
   by_cases k10:k=10
   ·subst k10;go_enter Tryz.func162,Tryz.ntmps162;go_wp2_with (first|omega|(rename_i hx;rw [hte] at hx;cases hx));have hv:r = -1:=by rw [HR.out];simp [HE.out]
    go_ret;exact ⟨by rw [hv];rfl,be⟩
   by_cases k11:k=11
   ·subst k11;go_enter Tryz.func162,Tryz.ntmps162;go_wp2_with (first|omega|(rename_i hx;rw [hte] at hx;cases hx));have hv:r = -1:=by rw [HR.out];simp [HE.out]
    go_ret;exact ⟨by rw [hv];rfl,be⟩
   by_cases k12:k=12
   ·subst k12;go_enter Tryz.func162,Tryz.ntmps162;go_wp2_with (first|omega|(rename_i hx;rw [hte] at hx;cases hx));have hv:r = -1:=by rw [HR.out];simp [HE.out]
    go_ret;exact ⟨by rw [hv];rfl,be⟩
   by_cases k13:k=13
   ·subst k13;go_enter Tryz.func162,Tryz.ntmps162;go_wp2_with (first|omega|(rename_i hx;rw [hte] at hx;cases hx));refine (in_calls _ _ _ _).mono ?_;rintro e w1 ⟨rfl,hb⟩;obtain ⟨hc0,hf0⟩:=bcell (W:=(w.alloc (.cells #[.int .i64 13,.int .i64 0,.string t] 102))) hb;have hx1:w1.cell? ⟨w.heap.size,1,none⟩=some (.int .i64 0):=by rw [hc0 _ _ (by simp)];simp [go_sem]
    have hx2:w1.cell? ⟨w.heap.size,2,none⟩=some (.string t):=by rw [hc0 _ _ (by simp)];simp [go_sem]
    clear hc0 hf0;have HB1:=am (below_step (w:=w) be hb);clear hb;go_wp2_with (first|omega|(rename_i hx;rw [hte] at hx;cases hx));have hv:r = -1:=by rw [HR.out];simp [HE.out]
    go_ret;exact ⟨by rw [hv];rfl,HB1.out⟩
   go_enter Tryz.func162,Tryz.ntmps162;go_wp2_with (first|omega|(rename_i hx;rw [hte] at hx;cases hx));have hv:r = -1:=by rw [HR.out];rw [if_neg k1,if_neg k2,if_neg (by omega),if_neg (by omega),if_neg k8,if_neg k13]
   go_ret;exact ⟨by rw [hv];rfl,be⟩
 ·have HN:=am h0
  by_cases ht:t=⟨#[]⟩
  ·subst ht;have HR:=am hr;clear hr
   by_cases k1:k=1
   ·subst k1;go_enter Tryz.func162,Tryz.ntmps162;go_wp2_with omega;have hv:r = -1:=by rw [HR.out];simp [HN.out]
    go_ret;exact ⟨by rw [hv];rfl,be⟩
   by_cases k2:k=2
   ·subst k2;go_enter Tryz.func162,Tryz.ntmps162;go_wp2_with omega;have hv:r = -1:=by rw [HR.out];simp [HN.out]
    go_ret;exact ⟨by rw [hv];rfl,be⟩
   by_cases k3:k=3
   ·subst k3;go_enter Tryz.func162,Tryz.ntmps162;go_wp2_with omega;have hv:r = -1:=by rw [HR.out];simp [HN.out]
    go_ret;exact ⟨by rw [hv];rfl,be⟩
   by_cases k4:k=4
   ·subst k4;go_enter Tryz.func162,Tryz.ntmps162;go_wp2_with omega;have hv:r = -1:=by rw [HR.out];simp [HN.out]
    go_ret;exact ⟨by rw [hv];rfl,be⟩
   by_cases k5:k=5
   ·subst k5;go_enter Tryz.func162,Tryz.ntmps162;go_wp2_with omega;have hv:r = -1:=by rw [HR.out];simp [HN.out]
    go_ret;exact ⟨by rw [hv];rfl,be⟩
   by_cases k6:k=6
   ·subst k6;go_enter Tryz.func162,Tryz.ntmps162;go_wp2_with omega;have hv:r = -1:=by rw [HR.out];simp [HN.out]
    go_ret;exact ⟨by rw [hv];rfl,be⟩
   by_cases k7:k=7
   ·subst k7;go_enter Tryz.func162,Tryz.ntmps162;go_wp2_with omega;have hv:r = -1:=by rw [HR.out];simp [HN.out]
    go_ret;exact ⟨by rw [hv];rfl,be⟩
   by_cases k8:k=8
   ·subst k8
    by_cases h8:0≤n∧n≤8
    ·obtain ⟨h8a,h8b⟩:=h8;have h8c:=decide_eq_true h8a;have h8d:=decide_eq_true h8b;go_enter Tryz.func162,Tryz.ntmps162;go_wp2_with omega;refine (in_calls _ _ _ _).mono ?_;rintro e w1 ⟨rfl,hb⟩;obtain ⟨hc0,hf0⟩:=bcell (W:=(w.alloc (.cells #[.int .i64 8,.int .i64 n,.string ⟨#[]⟩] 102))) hb;have hx1:w1.cell? ⟨w.heap.size,1,none⟩=some (.int .i64 n):=by rw [hc0 _ _ (by simp)];simp [go_sem]
     have hx2:w1.cell? ⟨w.heap.size,2,none⟩=some (.string ⟨#[]⟩):=by rw [hc0 _ _ (by simp)];simp [go_sem]
     clear hc0 hf0;have HB1:=am (below_step (w:=w) be hb);clear hb;go_wp2_with omega;have hv:r=1:=by rw [HR.out];simp [HN.out] <;> omega
     go_ret;exact ⟨by rw [hv];rfl,HB1.out⟩
    ·have h8c:(decide (0≤n)&&decide (n≤8))=false:=by simp;omega
     go_enter Tryz.func162,Tryz.ntmps162;go_wp2_with omega;refine (in_calls _ _ _ _).mono ?_;rintro e w1 ⟨rfl,hb⟩;obtain ⟨hc0,hf0⟩:=bcell (W:=(w.alloc (.cells #[.int .i64 8,.int .i64 n,.string ⟨#[]⟩] 102))) hb;have hx1:w1.cell? ⟨w.heap.size,1,none⟩=some (.int .i64 n):=by rw [hc0 _ _ (by simp)];simp [go_sem]
     have hx2:w1.cell? ⟨w.heap.size,2,none⟩=some (.string ⟨#[]⟩):=by rw [hc0 _ _ (by simp)];simp [go_sem]
     clear hc0 hf0;have HB1:=am (below_step (w:=w) be hb);clear hb;go_wp2_with omega;have hv:r = -1:=by rw [HR.out];simp [HN.out] <;> omega
     go_ret;exact ⟨by rw [hv];rfl,HB1.out⟩
   by_cases k9:k=9
   ·subst k9;go_enter Tryz.func162,Tryz.ntmps162;go_wp2_with omega;have hv:r = -1:=by rw [HR.out];simp [HN.out]
    go_ret;exact ⟨by rw [hv];rfl,be⟩
   by_cases k10:k=10
   ·subst k10;go_enter Tryz.func162,Tryz.ntmps162;go_wp2_with omega;have hv:r = -1:=by rw [HR.out];simp [HN.out]
    go_ret;exact ⟨by rw [hv];rfl,be⟩
   by_cases k11:k=11
   ·subst k11;go_enter Tryz.func162,Tryz.ntmps162;go_wp2_with omega;have hv:r = -1:=by rw [HR.out];simp [HN.out]
    go_ret;exact ⟨by rw [hv];rfl,be⟩
   by_cases k12:k=12
   ·subst k12;go_enter Tryz.func162,Tryz.ntmps162;go_wp2_with omega;have hv:r = -1:=by rw [HR.out];simp [HN.out]
    go_ret;exact ⟨by rw [hv];rfl,be⟩
   by_cases k13:k=13
   ·subst k13
    by_cases h8:1≤n∧n≤6
    ·obtain ⟨h8a,h8b⟩:=h8;have h8c:=decide_eq_true h8a;have h8d:=decide_eq_true h8b
     cases bm with
     | false=>
      go_enter Tryz.func162,Tryz.ntmps162;go_wp2_with omega;refine (in_calls _ _ _ _).mono ?_;rintro e w1 ⟨rfl,hb⟩;obtain ⟨hc0,hf0⟩:=bcell (W:=(w.alloc (.cells #[.int .i64 13,.int .i64 n,.string ⟨#[]⟩] 102))) hb;have hx1:w1.cell? ⟨w.heap.size,1,none⟩=some (.int .i64 n):=by rw [hc0 _ _ (by simp)];simp [go_sem]
      have hx2:w1.cell? ⟨w.heap.size,2,none⟩=some (.string ⟨#[]⟩):=by rw [hc0 _ _ (by simp)];simp [go_sem]
      clear hc0 hf0;have HB1:=am (below_step (w:=w) be hb);clear hb;go_wp2_with omega;refine (HName.out _ (HG.out.below HB1.out)).mono ?_;rintro e w2 ⟨rfl,hb⟩;replace hx1:=pb hb hx1;replace hx2:=pb hb hx2;have HB2:=am (below_step (w:=w) HB1.out hb);clear hb;go_wp2_with omega;have hv:r = -1:=by rw [HR.out];simp [HN.out] <;> omega
      go_ret;exact ⟨by rw [hv];rfl,HB2.out⟩
     | true=>
      go_enter Tryz.func162,Tryz.ntmps162;go_wp2_with omega;refine (in_calls _ _ _ _).mono ?_;rintro e w1 ⟨rfl,hb⟩;obtain ⟨hc0,hf0⟩:=bcell (W:=(w.alloc (.cells #[.int .i64 13,.int .i64 n,.string ⟨#[]⟩] 102))) hb;have hx1:w1.cell? ⟨w.heap.size,1,none⟩=some (.int .i64 n):=by rw [hc0 _ _ (by simp)];simp [go_sem]
      have hx2:w1.cell? ⟨w.heap.size,2,none⟩=some (.string ⟨#[]⟩):=by rw [hc0 _ _ (by simp)];simp [go_sem]
      clear hc0 hf0;have HB1:=am (below_step (w:=w) be hb);clear hb;go_wp2_with omega;refine (HName.out _ (HG.out.below HB1.out)).mono ?_;rintro e w2 ⟨rfl,hb⟩;replace hx1:=pb hb hx1;replace hx2:=pb hb hx2;have HB2:=am (below_step (w:=w) HB1.out hb);clear hb;go_wp2_with omega;have hv:r=n:=by rw [HR.out];simp [HN.out] <;> omega
      go_ret;exact ⟨by rw [hv];rfl,HB2.out⟩
    ·have h8c:(decide (1≤n)&&decide (n≤6))=false:=by simp;omega
     go_enter Tryz.func162,Tryz.ntmps162;go_wp2_with omega;refine (in_calls _ _ _ _).mono ?_;rintro e w1 ⟨rfl,hb⟩;obtain ⟨hc0,hf0⟩:=bcell (W:=(w.alloc (.cells #[.int .i64 13,.int .i64 n,.string ⟨#[]⟩] 102))) hb;have hx1:w1.cell? ⟨w.heap.size,1,none⟩=some (.int .i64 n):=by rw [hc0 _ _ (by simp)];simp [go_sem]
     have hx2:w1.cell? ⟨w.heap.size,2,none⟩=some (.string ⟨#[]⟩):=by rw [hc0 _ _ (by simp)];simp [go_sem]
     clear hc0 hf0;have HB1:=am (below_step (w:=w) be hb);clear hb;go_wp2_with omega;have hv:r = -1:=by rw [HR.out];simp [HN.out] <;> omega
     go_ret;exact ⟨by rw [hv];rfl,HB1.out⟩
   go_enter Tryz.func162,Tryz.ntmps162;go_wp2_with omega;have hv:r = -1:=by rw [HR.out];rw [if_neg k1,if_neg k2,if_neg (by omega),if_neg (by omega),if_neg k8,if_neg k13]
   go_ret;exact ⟨by rw [hv];rfl,be⟩
  ·have HE:=am ht;have hte:t.toList.isEmpty=false:=ne_empty t ht;have HR:=am hr;clear hr
   by_cases k1:k=1
   ·subst k1;go_enter Tryz.func162,Tryz.ntmps162;go_wp2_with (first|omega|(rename_i hx;rw [hte] at hx;cases hx));have hv:r = -1:=by rw [HR.out];simp [HN.out,HE.out]
    go_ret;exact ⟨by rw [hv];rfl,be⟩
   by_cases k2:k=2
   ·subst k2;go_enter Tryz.func162,Tryz.ntmps162;go_wp2_with (first|omega|(rename_i hx;rw [hte] at hx;cases hx));have hv:r = -1:=by rw [HR.out];simp [HN.out,HE.out]
    go_ret;exact ⟨by rw [hv];rfl,be⟩
   by_cases k3:k=3
   ·subst k3;go_enter Tryz.func162,Tryz.ntmps162;go_wp2_with (first|omega|(rename_i hx;rw [hte] at hx;cases hx));have hv:r = -1:=by rw [HR.out];simp [HN.out,HE.out]
    go_ret;exact ⟨by rw [hv];rfl,be⟩
   by_cases k4:k=4
   ·subst k4;go_enter Tryz.func162,Tryz.ntmps162;go_wp2_with (first|omega|(rename_i hx;rw [hte] at hx;cases hx));have hv:r = -1:=by rw [HR.out];simp [HN.out,HE.out]
    go_ret;exact ⟨by rw [hv];rfl,be⟩
   by_cases k5:k=5
   ·subst k5;go_enter Tryz.func162,Tryz.ntmps162;go_wp2_with (first|omega|(rename_i hx;rw [hte] at hx;cases hx));have hv:r = -1:=by rw [HR.out];simp [HN.out,HE.out]
    go_ret;exact ⟨by rw [hv];rfl,be⟩
   by_cases k6:k=6
   ·subst k6;go_enter Tryz.func162,Tryz.ntmps162;go_wp2_with (first|omega|(rename_i hx;rw [hte] at hx;cases hx));have hv:r = -1:=by rw [HR.out];simp [HN.out,HE.out]
    go_ret;exact ⟨by rw [hv];rfl,be⟩
   by_cases k7:k=7
   ·subst k7;go_enter Tryz.func162,Tryz.ntmps162;go_wp2_with (first|omega|(rename_i hx;rw [hte] at hx;cases hx));have hv:r = -1:=by rw [HR.out];simp [HN.out,HE.out]
    go_ret;exact ⟨by rw [hv];rfl,be⟩
   by_cases k8:k=8
   ·subst k8
    by_cases h8:0≤n∧n≤8
    ·obtain ⟨h8a,h8b⟩:=h8;have h8c:=decide_eq_true h8a;have h8d:=decide_eq_true h8b;go_enter Tryz.func162,Tryz.ntmps162;go_wp2_with (first|omega|(rename_i hx;rw [hte] at hx;cases hx));refine (in_calls _ _ _ _).mono ?_;rintro e w1 ⟨rfl,hb⟩;obtain ⟨hc0,hf0⟩:=bcell (W:=(w.alloc (.cells #[.int .i64 8,.int .i64 n,.string t] 102))) hb;have hx1:w1.cell? ⟨w.heap.size,1,none⟩=some (.int .i64 n):=by rw [hc0 _ _ (by simp)];simp [go_sem]
     have hx2:w1.cell? ⟨w.heap.size,2,none⟩=some (.string t):=by rw [hc0 _ _ (by simp)];simp [go_sem]
     clear hc0 hf0;have HB1:=am (below_step (w:=w) be hb);clear hb;go_wp2_with (first|omega|(rename_i hx;rw [hte] at hx;cases hx));have hv:r = -1:=by rw [HR.out];simp [HN.out,HE.out] <;> omega
     go_ret;exact ⟨by rw [hv];rfl,HB1.out⟩
    ·have h8c:(decide (0≤n)&&decide (n≤8))=false:=by simp;omega
     go_enter Tryz.func162,Tryz.ntmps162;go_wp2_with (first|omega|(rename_i hx;rw [hte] at hx;cases hx));refine (in_calls _ _ _ _).mono ?_;rintro e w1 ⟨rfl,hb⟩;obtain ⟨hc0,hf0⟩:=bcell (W:=(w.alloc (.cells #[.int .i64 8,.int .i64 n,.string t] 102))) hb;have hx1:w1.cell? ⟨w.heap.size,1,none⟩=some (.int .i64 n):=by rw [hc0 _ _ (by simp)];simp [go_sem]
     have hx2:w1.cell? ⟨w.heap.size,2,none⟩=some (.string t):=by rw [hc0 _ _ (by simp)];simp [go_sem]
     clear hc0 hf0;have HB1:=am (below_step (w:=w) be hb);clear hb;go_wp2_with (first|omega|(rename_i hx;rw [hte] at hx;cases hx));have hv:r = -1:=by rw [HR.out];simp [HN.out,HE.out] <;> omega
     go_ret;exact ⟨by rw [hv];rfl,HB1.out⟩
   by_cases k9:k=9
   ·subst k9;go_enter Tryz.func162,Tryz.ntmps162;go_wp2_with (first|omega|(rename_i hx;rw [hte] at hx;cases hx));have hv:r = -1:=by rw [HR.out];simp [HN.out,HE.out]
    go_ret;exact ⟨by rw [hv];rfl,be⟩
   by_cases k10:k=10
   ·subst k10;go_enter Tryz.func162,Tryz.ntmps162;go_wp2_with (first|omega|(rename_i hx;rw [hte] at hx;cases hx));have hv:r = -1:=by rw [HR.out];simp [HN.out,HE.out]
    go_ret;exact ⟨by rw [hv];rfl,be⟩
   by_cases k11:k=11
   ·subst k11;go_enter Tryz.func162,Tryz.ntmps162;go_wp2_with (first|omega|(rename_i hx;rw [hte] at hx;cases hx));have hv:r = -1:=by rw [HR.out];simp [HN.out,HE.out]
    go_ret;exact ⟨by rw [hv];rfl,be⟩
   by_cases k12:k=12
   ·subst k12;go_enter Tryz.func162,Tryz.ntmps162;go_wp2_with (first|omega|(rename_i hx;rw [hte] at hx;cases hx));have hv:r = -1:=by rw [HR.out];simp [HN.out,HE.out]
    go_ret;exact ⟨by rw [hv];rfl,be⟩
   by_cases k13:k=13
   ·subst k13
    by_cases h8:1≤n∧n≤6
    ·obtain ⟨h8a,h8b⟩:=h8;have h8c:=decide_eq_true h8a;have h8d:=decide_eq_true h8b
     cases bm with
     | false=>
      go_enter Tryz.func162,Tryz.ntmps162;go_wp2_with (first|omega|(rename_i hx;rw [hte] at hx;cases hx));refine (in_calls _ _ _ _).mono ?_;rintro e w1 ⟨rfl,hb⟩;obtain ⟨hc0,hf0⟩:=bcell (W:=(w.alloc (.cells #[.int .i64 13,.int .i64 n,.string t] 102))) hb;have hx1:w1.cell? ⟨w.heap.size,1,none⟩=some (.int .i64 n):=by rw [hc0 _ _ (by simp)];simp [go_sem]
      have hx2:w1.cell? ⟨w.heap.size,2,none⟩=some (.string t):=by rw [hc0 _ _ (by simp)];simp [go_sem]
      clear hc0 hf0;have HB1:=am (below_step (w:=w) be hb);clear hb;go_wp2_with (first|omega|(rename_i hx;rw [hte] at hx;cases hx));refine (HName.out _ (HG.out.below HB1.out)).mono ?_;rintro e w2 ⟨rfl,hb⟩;replace hx1:=pb hb hx1;replace hx2:=pb hb hx2;have HB2:=am (below_step (w:=w) HB1.out hb);clear hb;go_wp2_with (first|omega|(rename_i hx;rw [hte] at hx;cases hx));have hv:r = -1:=by rw [HR.out];simp [HN.out,HE.out] <;> omega
      go_ret;exact ⟨by rw [hv];rfl,HB2.out⟩
     | true=>
      go_enter Tryz.func162,Tryz.ntmps162;go_wp2_with (first|omega|(rename_i hx;rw [hte] at hx;cases hx));refine (in_calls _ _ _ _).mono ?_;rintro e w1 ⟨rfl,hb⟩;obtain ⟨hc0,hf0⟩:=bcell (W:=(w.alloc (.cells #[.int .i64 13,.int .i64 n,.string t] 102))) hb;have hx1:w1.cell? ⟨w.heap.size,1,none⟩=some (.int .i64 n):=by rw [hc0 _ _ (by simp)];simp [go_sem]
      have hx2:w1.cell? ⟨w.heap.size,2,none⟩=some (.string t):=by rw [hc0 _ _ (by simp)];simp [go_sem]
      clear hc0 hf0;have HB1:=am (below_step (w:=w) be hb);clear hb;go_wp2_with (first|omega|(rename_i hx;rw [hte] at hx;cases hx));refine (HName.out _ (HG.out.below HB1.out)).mono ?_;rintro e w2 ⟨rfl,hb⟩;replace hx1:=pb hb hx1;replace hx2:=pb hb hx2;have HB2:=am (below_step (w:=w) HB1.out hb);clear hb;go_wp2_with (first|omega|(rename_i hx;rw [hte] at hx;cases hx));have hv:r=n:=by rw [HR.out];simp [HN.out,HE.out] <;> omega
      go_ret;exact ⟨by rw [hv];rfl,HB2.out⟩
    ·have h8c:(decide (1≤n)&&decide (n≤6))=false:=by simp;omega
     go_enter Tryz.func162,Tryz.ntmps162;go_wp2_with (first|omega|(rename_i hx;rw [hte] at hx;cases hx));refine (in_calls _ _ _ _).mono ?_;rintro e w1 ⟨rfl,hb⟩;obtain ⟨hc0,hf0⟩:=bcell (W:=(w.alloc (.cells #[.int .i64 13,.int .i64 n,.string t] 102))) hb;have hx1:w1.cell? ⟨w.heap.size,1,none⟩=some (.int .i64 n):=by rw [hc0 _ _ (by simp)];simp [go_sem]
     have hx2:w1.cell? ⟨w.heap.size,2,none⟩=some (.string t):=by rw [hc0 _ _ (by simp)];simp [go_sem]
     clear hc0 hf0;have HB1:=am (below_step (w:=w) be hb);clear hb;go_wp2_with (first|omega|(rename_i hx;rw [hte] at hx;cases hx));have hv:r = -1:=by rw [HR.out];simp [HN.out,HE.out] <;> omega
     go_ret;exact ⟨by rw [hv];rfl,HB1.out⟩
   go_enter Tryz.func162,Tryz.ntmps162;go_wp2_with (first|omega|(rename_i hx;rw [hte] at hx;cases hx));have hv:r = -1:=by rw [HR.out];rw [if_neg k1,if_neg k2,if_neg (by omega),if_neg (by omega),if_neg k8,if_neg k13]
   go_ret;exact ⟨by rw [hv];rfl,be⟩
noncomputable def partsP (x:S102):Int:=partsK x.f0 x.f1 x.f2
theorem partsP_range (x:S102) : -1≤partsP x∧partsP x≤6:=by
 unfold partsP partsK
 repeat' split
 all_goals omega
noncomputable def depthP:List S102→Int→Option Int
 | [],d=>some d
 | x :: l,d=>if partsP x<0∨d<partsP x then none else depthP l (d+(1 - partsP x))
noncomputable def termOkB (l:List S102):Bool:=match depthP l 0 with
 | some d=>decide (d=1)&&decide (l.length≤100)
 | none=>false
def SmallN (l:List S102):Prop:=∀ x,x∈l→x.f2.size<4294967281
set_option maxHeartbeats 4000000 in
set_option maxRecDepth 100000 in
theorem TermOk_calls (A0:Option Addr) (c0:Nat) (l0:List S102) (hs:SmallN l0) (w:World) (hG:GV w) (hr0:Kd.C k102 w A0 l0.length l0) :
 Calls Tryz.prog 66 #[.agg #[.slice A0 l0.length c0]] w fun e w'=>e=.returned (.bool (termOkB l0))∧Below w.heap.size w w':=by
 have HG:=am hG;have HR0:=am hr0;have HS:=am hs;clear hr0 hG hs;have hu25:=Tryz.underlying25;have hu102:=Tryz.underlying102;obtain ⟨r,hr⟩:∃ r,r=termOkB l0:=⟨_,rfl⟩;rw [← hr];have HT:=am hr;clear hr;have hlen:l0.length≤9223372036854775807:=HR0.out.2.1;go_enter Tryz.func66,Tryz.ntmps66;go_wp2
 go_loopw [3,10] (fun d i wr=>∃ (k:Nat) (dz:Int),k≤l0.length∧0≤dz∧dz≤k∧i=.int .i64 k∧d=.int .i64 dz∧Aside0 (depthP (l0.drop k) dz=depthP l0 0)∧Aside0 (Below w.heap.size w wr)∧wr.cell? ⟨w.heap.size,0,none⟩=some (.slice A0 l0.length c0)) (fun _ i _=>l0.length - (intOf i).toNat)
 case atStart=>exact ⟨0,0,Nat.zero_le _,by omega,by omega,rfl,rfl,⟨rfl⟩,⟨be⟩,by simp [go_sem]⟩
 case round=>
  obtain ⟨k,dz,hk,hd0,hd1,rfl,rfl,HI,HB,hbox⟩:=hrel;have HT':=HT
  by_cases hlt:k<l0.length
  ·obtain ⟨ad,e0,hx0,hx1,hx2⟩:=at_T102 HR0.out (k:Int) (by omega) (by omega);subst e0;rw [rdT102_get hlt] at hx0 hx1 hx2;obtain ⟨y,hy⟩:∃ y,y=l0[k]:=⟨_,rfl⟩;rw [← hy] at hx0 hx1 hx2;replace hx0:=(pb HB.out hx0);replace hx1:=(pb HB.out hx1);replace hx2:=(pb HB.out hx2);simp only [Int.toNat_natCast] at hx0 hx1 hx2;have HD:Aside0 (l0.drop k=y :: l0.drop (k+1)):=⟨(List.drop_eq_getElem_cons hlt).trans (by rw [← hy])⟩;have HC:Aside0 (∀ W,GV W→Calls Tryz.prog 162 #[.agg #[.int .i64 y.f0,.int .i64 y.f1,.string y.f2]] W fun e w'=>e=.returned (.int .i64 (partsP y))∧Below W.heap.size W w'):=⟨fun W h=>parts_calls y.f0 y.f1 y.f2 (HS.out y (by rw [hy];exact List.getElem_mem _)) W h⟩;have hpr:=partsP_range y;have HI2:Aside0 ((if partsP y<0∨dz<partsP y then none else depthP (l0.drop (k+1)) (dz+(1 - partsP y)))=depthP l0 0):=⟨by have h:=HI.out;rw [HD.out] at h;exact h⟩;clear hy HI HD;generalize partsP y=pt at *;obtain ⟨hp1,hp2⟩:=hpr
   by_cases hbad:pt<0∨dz<pt
   ·have hv:r=false:=by rw [HT.out];unfold termOkB;rw [← HI2.out,if_pos hbad]
    go_wp2_with (omega);refine (HC.out _ (HG.out.below (bo HB))).mono ?_;rintro e w1 ⟨rfl,hb⟩;have HB1:=am (below_step (w:=w) (bo HB) hb);clear hb HB;go_wp2_with (omega)
    all_goals go_ret
    all_goals exact ⟨by first|rfl|(rw [hv];rfl)|(simp;done)|(simp [hv];done),HB1.out⟩
   ·have HI3:=am ((if_neg hbad).symm.trans HI2.out);have hb1:decide (pt<0)=false:=decide_eq_false (by omega);have hb2:decide (dz<pt)=false:=decide_eq_false (by omega);clear HI2;go_wp2_with (omega);refine (HC.out _ (HG.out.below (bo HB))).mono ?_;rintro e w1 ⟨rfl,hb⟩;have HB1:=am (below_step (w:=w) (bo HB) hb);have hbox1:=pb (below_step (w:=wr) be hb) hbox;clear hb HB hbox;go_wp2_with (omega)
    go_roundw
    case rel=>exact ⟨k+1,dz+(1 - pt),by omega,by omega,by omega,by go_num,by go_num,HI3,HB1,hbox1⟩
    case measure=>simp [intOf];omega
  ·have hv:r=(decide (dz=1)&&decide (l0.length≤100)):=by
    rw [HT.out];unfold termOkB;rw [← HI.out,List.drop_of_length_le (by omega)];rfl
   by_cases hd:dz=1
   ·subst hd;go_wp2_with (omega);go_ret;exact ⟨by first|rfl|(rw [hv];rfl)|(rw [hv];simp;done)|(rw [hv];simp;omega)|(simp;done)|(simp;omega),HB.out⟩
   ·go_wp2_with (omega)
    all_goals go_ret
    all_goals exact ⟨by first|rfl|(rw [hv];rfl)|(rw [hv];simp;done)|(rw [hv];simp;omega)|(simp;done)|(simp;omega),HB.out⟩
end Go.Proofs.YtbahacapnaohcaaGreatDoor.PB
