import Derived.Sort.OwnSorted
import Derived.Lib.OwnBridge
import Derived.Lib.RowBridge
import Derived.Test.YtbahacapnaohcaaGreatDoorExtG
set_option linter.unusedVariables false
set_option linter.unusedSimpArgs false
namespace Go.Proofs.YtbahacapnaohcaaGreatDoor.PB
open Go.RowKit Go.Proofs.YtbahacapnaohcaaGreatDoorW.PrintWords Go.Proofs.YtbahacapnaohcaaGreatDoorW.PrintLast Go.Proofs.YtbahacapnaohcaaGreatDoorW.PrintMore Go.Shelf
theorem sz_aux (n G s:Nat) (h:0+n≤G):0+(0+n - 0) * s+(G - (0+n)) * s=G * s:=by
 obtain ⟨k,rfl⟩:=Nat.exists_eq_add_of_le h
 simp [Nat.add_mul]
theorem R_grown {α:Type} (d:Kd α) (e:TypeId) (w:World) (G:Nat) (cells:Array Value) (hsz:cells.size=G * d.sz) (hG:G≤maxLen) :
 Kd.R d e (w.drew.alloc (.cells cells e)) w.heap.size (fun _=>True) (.slice (some ⟨w.heap.size,0,none⟩) 0 G) []:=by
 refine ⟨fun _ _=>trivial,[],?_,?_⟩
 ·refine ⟨by simp,.inr ⟨w.heap.size,G,cells,rfl,Nat.le_refl _,?_,Nat.zero_le _,hG,hsz,by simp⟩⟩
  simp [World.alloc,World.drew,-World.alloc_eq,-World.drew_eq]
 ·exact Reps.none _ _
theorem growT_calls (n:Nat) (hn:n<4398046511104) (w:World) :
 Calls Tryz.prog 287 #[.slice none 0 0,.int .i64 n] w fun e w'=>∃ v,e=.returned v∧Kd.R k102 102 w' w.heap.size (fun _=>True) v []∧Below w.heap.size w w':=by
 by_cases h0:n=0
 ·subst h0;refine (Any8.slices_Grow_room Tryz.growT none 0 0 0 w (by omega) (by omega) (by omega) (by omega)).mono ?_;rintro e w' ⟨rfl,rfl⟩;exact ⟨_,rfl,Kd.R_nil _ _ _ _ _,Below.refl _ _⟩
 ·obtain ⟨i0,hi0⟩:∃ i0,Tryz.prog.info? 102=some i0:=by
   have:=info102
   cases h:Tryz.prog.info? 102 with
   | none=>rw [h] at this;cases this
   | some i=>exact ⟨i,rfl⟩
  have hi:=info102;rw [hi0] at hi;simp only [Option.map_some,Option.some.injEq,Prod.mk.injEq] at hi;have hG:=grownCap_ge w (0+n) 0 102;have hG2:=grownCap_le_maxLen w (0+n) 0 102 (by unfold maxLen;omega);refine (Any8.slices_Grow_grow Tryz.growT i0 _ hi0 hi.1 (by rw [hi.2.1];omega) none 0 0 n [] w (by omega) (by omega) (by rw [hi.2.2];omega) (by omega) (by simp) (by simp) (by simp)).mono ?_;rintro e w' ⟨rfl,rfl⟩;refine ⟨_,rfl,R_grown k102 102 w _ _ ?_ hG2,by repeat (first|exact Below.refl _ _|apply below_alloc|apply pw_below_drewN|apply below_drew1)⟩;rw [Array.size_append,Array.size_append,size_zeroCells,size_zeroCells]
  change 0+(0+n - 0) * k102.sz+(grownCap w (0+n) 0 102 - (0+n)) * k102.sz=grownCap w (0+n) 0 102 * k102.sz
  generalize grownCap w (0+n) 0 102=G at *;exact sz_aux n G _ hG
theorem growS_calls (n:Nat) (hn:n<4398046511104) (w:World) :
 Calls Tryz.prog 202 #[.slice none 0 0,.int .i64 n] w fun e w'=>∃ v,e=.returned v∧Kd.R Kd.string 9 w' w.heap.size (fun _=>True) v []∧Below w.heap.size w w':=by
 by_cases h0:n=0
 ·subst h0;refine (Any8.slices_Grow_room Tryz.growS none 0 0 0 w (by omega) (by omega) (by omega) (by omega)).mono ?_;rintro e w' ⟨rfl,rfl⟩;exact ⟨_,rfl,Kd.R_nil _ _ _ _ _,Below.refl _ _⟩
 ·obtain ⟨i0,hi0⟩:∃ i0,Tryz.prog.info? 9=some i0:=by
   have:=info9
   cases h:Tryz.prog.info? 9 with
   | none=>rw [h] at this;cases this
   | some i=>exact ⟨i,rfl⟩
  have hi:=info9;rw [hi0] at hi;simp only [Option.map_some,Option.some.injEq,Prod.mk.injEq] at hi;have hG:=grownCap_ge w (0+n) 0 9;have hG2:=grownCap_le_maxLen w (0+n) 0 9 (by unfold maxLen;omega);refine (Any8.slices_Grow_grow Tryz.growS i0 _ hi0 hi.1 (by rw [hi.2.1];omega) none 0 0 n [] w (by omega) (by omega) (by rw [hi.2.2];omega) (by omega) (by simp) (by simp) (by simp)).mono ?_;rintro e w' ⟨rfl,rfl⟩;refine ⟨_,rfl,R_grown Kd.string 9 w _ _ ?_ hG2,by repeat (first|exact Below.refl _ _|apply below_alloc|apply pw_below_drewN|apply below_drew1)⟩;rw [Array.size_append,Array.size_append,size_zeroCells,size_zeroCells]
  change 0+(0+n - 0) * Kd.string.sz+(grownCap w (0+n) 0 9 - (0+n)) * Kd.string.sz=grownCap w (0+n) 0 9 * Kd.string.sz
  generalize grownCap w (0+n) 0 9=G at *;exact sz_aux n G _ hG
set_option maxHeartbeats 4000000 in
set_option maxRecDepth 100000 in
theorem concatT_calls (q:Nat) (A:Option Addr) (ca:Nat) (X:List S102) (B:Option Addr) (cb:Nat) (Y:List S102) (w:World) (h0:w.cell? ⟨q,0,none⟩=some (.slice A X.length ca)) (h1:w.cell? ⟨q,1,none⟩=some (.slice B Y.length cb)) (hX:Kd.C k102 w A X.length X) (hY:Kd.C k102 w B Y.length Y) (hn:X.length+Y.length<4398046511104) :
 Calls Tryz.prog 200 #[.slice (some ⟨q,0,none⟩) 2 2] w fun e w'=>∃ v,e=.returned v∧Kd.R k102 102 w' w.heap.size (fun _=>True) v (X++Y)∧Below w.heap.size w w':=by
 have HX:=am hX;have HY:=am hY;have H0:=am h0;have H1:=am h1;clear hX hY h0 h1;go_enter Tryz.func200,Tryz.ntmps200;go_wp2
 go_loop [3,11] (fun sz i=>∃ (k:Nat) (n:Nat),k≤2∧i=.int .i64 k∧sz=.int .i64 n∧n=(if k=0 then 0 else if k=1 then X.length else X.length+Y.length)) (fun _ i=>2 - (intOf i).toNat)
 case atStart=>exact ⟨0,0,by omega,rfl,rfl,rfl⟩
 case round=>
  obtain ⟨k,n,hk,rfl,rfl,hnk⟩:=hrel
  by_cases k0:k=0
  ·subst k0;obtain rfl:n=0:=hnk;have h0:=H0.out;have hx:X.length<4398046511104:=by omega
   go_wp2_with (omega)
   go_round
   case rel=>exact ⟨1,X.length,by omega,rfl,by go_num,rfl⟩
   case measure=>simp [intOf]
  ·by_cases k1:k=1
   ·subst k1;obtain rfl:n=X.length:=hnk;have h1:=H1.out;go_wp2_with (omega)
    go_round
    case rel=>exact ⟨2,X.length+Y.length,by omega,rfl,by go_num,rfl⟩
    case measure=>simp [intOf]
   ·obtain rfl:k=2:=by omega
    obtain rfl:n=X.length+Y.length:=hnk;clear k0 k1 hk;go_wp2_with (omega);refine (growT_calls (X.length+Y.length) hn w).mono ?_;rintro e w1 ⟨v,rfl,ho,hb⟩;have HO:=am ho;have HB:=am hb;clear ho hb;go_wp2
    go_loopw [6,27] (fun v i wr=>∃ (k:Nat),k≤2∧i=.int .i64 k∧Aside0 (Kd.R k102 102 wr w.heap.size (fun _=>True) v (if k=0 then [] else if k=1 then X else X++Y))∧Aside0 (Below w.heap.size w wr)) (fun _ i _=>2 - (intOf i).toNat)
    case atStart=>exact ⟨0,by omega,rfl,HO,HB⟩
    case round=>
     obtain ⟨k,hk,rfl,HO,HB⟩:=hrel
     by_cases k0:k=0
     ·subst k0;replace HO:Aside0 (Kd.R k102 102 wr w.heap.size (fun _=>True) u6 []):=HO;have h0:=(HB.out.cell (World.block_lt_of_cell? w _ H0.out)).trans H0.out;go_wp2_with (at_builtin;refine Kd.R_append_rows k102 (w0:=w) w.heap.size rfl _ _ 23 102 (.agg #[.int .i64 0,.int .i64 0,.string ⟨#[]⟩]) 32 rfl Tryz.underlying23 info102 rfl (by decide) (by omega) u6 [] X A X.length ca (fun _=>True) (fun _=>False) rfl rfl HO.out (Kd.C_below HX.out HB.out) (fun _ _ h=>h) (fun _ h=>h.elim) (fun _ _=>trivial) HB.out HB.out.size (by simp;omega) ?_;intro v1 w2 ho hb hg hat;have HO1:=am ho;have HB1:=am hb;clear ho hb hg hat)
      go_roundw
      case rel=>exact ⟨1,by omega,rfl,HO1,HB1⟩
      case measure=>simp [intOf]
     ·by_cases k1:k=1
      ·subst k1;replace HO:Aside0 (Kd.R k102 102 wr w.heap.size (fun _=>True) u6 X):=HO;have h1:=(HB.out.cell (World.block_lt_of_cell? w _ H1.out)).trans H1.out;go_wp2_with (at_builtin;refine Kd.R_append_rows k102 (w0:=w) w.heap.size rfl _ _ 23 102 (.agg #[.int .i64 0,.int .i64 0,.string ⟨#[]⟩]) 32 rfl Tryz.underlying23 info102 rfl (by decide) (by omega) u6 X Y B Y.length cb (fun _=>True) (fun _=>False) rfl rfl HO.out (Kd.C_below HY.out HB.out) (fun _ _ h=>h) (fun _ h=>h.elim) (fun _ _=>trivial) HB.out HB.out.size (by omega) ?_;intro v1 w2 ho hb hg hat;have HO1:=am ho;have HB1:=am hb;clear ho hb hg hat)
       go_roundw
       case rel=>exact ⟨2,by omega,rfl,HO1,HB1⟩
       case measure=>simp [intOf]
      ·obtain rfl:k=2:=by omega
       replace HO:Aside0 (Kd.R k102 102 wr w.heap.size (fun _=>True) u6 (X++Y)):=HO;clear k0 k1 hk;go_wp2_with (omega);go_ret;exact ⟨_,rfl,HO.out,HB.out⟩
set_option maxHeartbeats 4000000 in
set_option maxRecDepth 100000 in
theorem concatS_calls (q:Nat) (A:Option Addr) (ca:Nat) (X:List ByteArray) (B:Option Addr) (cb:Nat) (Y:List ByteArray) (w:World) (h0:w.cell? ⟨q,0,none⟩=some (.slice A X.length ca)) (h1:w.cell? ⟨q,1,none⟩=some (.slice B Y.length cb)) (hX:Kd.C Kd.string w A X.length X) (hY:Kd.C Kd.string w B Y.length Y) (hn:X.length+Y.length<4398046511104) :
 Calls Tryz.prog 96 #[.slice (some ⟨q,0,none⟩) 2 2] w fun e w'=>∃ v,e=.returned v∧Kd.R Kd.string 9 w' w.heap.size (fun _=>True) v (X++Y)∧Below w.heap.size w w':=by
 have HX:=am hX;have HY:=am hY;have H0:=am h0;have H1:=am h1;clear hX hY h0 h1;go_enter Tryz.func96,Tryz.ntmps96;go_wp2
 go_loop [3,11] (fun sz i=>∃ (k:Nat) (n:Nat),k≤2∧i=.int .i64 k∧sz=.int .i64 n∧n=(if k=0 then 0 else if k=1 then X.length else X.length+Y.length)) (fun _ i=>2 - (intOf i).toNat)
 case atStart=>exact ⟨0,0,by omega,rfl,rfl,rfl⟩
 case round=>
  obtain ⟨k,n,hk,rfl,rfl,hnk⟩:=hrel
  by_cases k0:k=0
  ·subst k0;obtain rfl:n=0:=hnk;have h0:=H0.out;have hx:X.length<4398046511104:=by omega
   go_wp2_with (omega)
   go_round
   case rel=>exact ⟨1,X.length,by omega,rfl,by go_num,rfl⟩
   case measure=>simp [intOf]
  ·by_cases k1:k=1
   ·subst k1;obtain rfl:n=X.length:=hnk;have h1:=H1.out;go_wp2_with (omega)
    go_round
    case rel=>exact ⟨2,X.length+Y.length,by omega,rfl,by go_num,rfl⟩
    case measure=>simp [intOf]
   ·obtain rfl:k=2:=by omega
    obtain rfl:n=X.length+Y.length:=hnk;clear k0 k1 hk;go_wp2_with (omega);refine (growS_calls (X.length+Y.length) hn w).mono ?_;rintro e w1 ⟨v,rfl,ho,hb⟩;have HO:=am ho;have HB:=am hb;clear ho hb;go_wp2
    go_loopw [6,27] (fun v i wr=>∃ (k:Nat),k≤2∧i=.int .i64 k∧Aside0 (Kd.R Kd.string 9 wr w.heap.size (fun _=>True) v (if k=0 then [] else if k=1 then X else X++Y))∧Aside0 (Below w.heap.size w wr)) (fun _ i _=>2 - (intOf i).toNat)
    case atStart=>exact ⟨0,by omega,rfl,HO,HB⟩
    case round=>
     obtain ⟨k,hk,rfl,HO,HB⟩:=hrel
     by_cases k0:k=0
     ·subst k0;replace HO:Aside0 (Kd.R Kd.string 9 wr w.heap.size (fun _=>True) u6 []):=HO;have h0:=(HB.out.cell (World.block_lt_of_cell? w _ H0.out)).trans H0.out;go_wp2_with (at_builtin;refine Kd.R_append_rows Kd.string (w0:=w) w.heap.size rfl _ _ 35 9 (.string ⟨#[]⟩) 16 rfl Tryz.underlying35 info9 rfl (by decide) (by omega) u6 [] X A X.length ca (fun _=>True) (fun _=>False) rfl rfl HO.out (Kd.C_below HX.out HB.out) (fun _ _ h=>h) (fun _ h=>h.elim) (fun _ _=>trivial) HB.out HB.out.size (by simp;omega) ?_;intro v1 w2 ho hb hg hat;have HO1:=am ho;have HB1:=am hb;clear ho hb hg hat)
      go_roundw
      case rel=>exact ⟨1,by omega,rfl,HO1,HB1⟩
      case measure=>simp [intOf]
     ·by_cases k1:k=1
      ·subst k1;replace HO:Aside0 (Kd.R Kd.string 9 wr w.heap.size (fun _=>True) u6 X):=HO;have h1:=(HB.out.cell (World.block_lt_of_cell? w _ H1.out)).trans H1.out;go_wp2_with (at_builtin;refine Kd.R_append_rows Kd.string (w0:=w) w.heap.size rfl _ _ 35 9 (.string ⟨#[]⟩) 16 rfl Tryz.underlying35 info9 rfl (by decide) (by omega) u6 X Y B Y.length cb (fun _=>True) (fun _=>False) rfl rfl HO.out (Kd.C_below HY.out HB.out) (fun _ _ h=>h) (fun _ h=>h.elim) (fun _ _=>trivial) HB.out HB.out.size (by omega) ?_;intro v1 w2 ho hb hg hat;have HO1:=am ho;have HB1:=am hb;clear ho hb hg hat)
       go_roundw
       case rel=>exact ⟨2,by omega,rfl,HO1,HB1⟩
       case measure=>simp [intOf]
      ·obtain rfl:k=2:=by omega
       replace HO:Aside0 (Kd.R Kd.string 9 wr w.heap.size (fun _=>True) u6 (X++Y)):=HO;clear k0 k1 hk;go_wp2_with (omega);go_ret;exact ⟨_,rfl,HO.out,HB.out⟩
open Go.RowKit Go.Proofs.YtbahacapnaohcaaGreatDoorW.PrintWords Go.Proofs.YtbahacapnaohcaaGreatDoorW.PrintLast Go.Proofs.YtbahacapnaohcaaGreatDoorW.PrintMore Go.Shelf Go.Sort
set_option maxRecDepth 100000 in
theorem insNil (w:World):Calls Tryz.prog 366 #[.slice none 0 0,.int .i64 0,.int .i64 0] w fun e w'=>e=.returned (.tuple #[])∧w'=w:=by
 go_enter Tryz.func366,Tryz.ntmps366;go_wp2;refine wp_loop_rounds 1 ?_;rw [rounds_succ];go_wp2
 go_end0
 exact ⟨rfl,rfl⟩
set_option maxRecDepth 100000 in
theorem pdqNil (w:World):Calls Tryz.prog 348 #[.slice none 0 0,.int .i64 0,.int .i64 0,.int .i64 0] w fun e w'=>e=.returned (.tuple #[])∧w'=w:=by
 go_enter Tryz.func348,Tryz.ntmps348;go_wp2;refine wp_loop_rounds 1 ?_;rw [rounds_succ];go_wp2_with (first|(go_at_call 366;refine (insNil _).mono ?_;rintro e w' ⟨rfl,rfl⟩));refine bodyPost_ret (results_none rfl _ _ _) rfl ?_;exact ⟨rfl,rfl⟩
set_option maxRecDepth 100000 in
theorem sortNil (w:World):Calls Tryz.prog 323 #[.slice none 0 0] w fun e w'=>e=.returned (.tuple #[])∧w'=w:=by
 have hLen:∀ w,Calls Tryz.prog 349 #[.int .u64 0] w fun e w'=>e=.returned (.int .i64 0)∧w'=w:=fun w=>Tryz.bits_Len 0 w (by omega) (by omega)
 go_enter Tryz.func323,Tryz.ntmps323;go_wp2_with (first
  | (go_at_call 349;refine (hLen _).mono ?_;rintro e w' ⟨rfl,rfl⟩)
  | (go_at_call 348;refine (pdqNil _).mono ?_;rintro e w' ⟨rfl,rfl⟩))
 go_end0
 exact ⟨rfl,rfl⟩
theorem clipS (A:Option Addr) (n c:Nat) (hn:n≤c) (h63:c≤9223372036854775807) (w:World):Calls Tryz.prog 95 #[.slice A n c] w fun e w'=>e=.returned (.slice A n n)∧w'=w:=by
 go_enter Tryz.func95,Tryz.ntmps95;go_wp2_with (omega);go_ret;exact ⟨by simp,rfl⟩
def rawB (xs:List ByteArray):List (List UInt8):=xs.map (·.data.toList)
def backB (ls:List (List UInt8)):List ByteArray:=ls.map fun l=>⟨l.toArray⟩
def sortB (xs:List ByteArray):List (List UInt8):=(rawB xs).mergeSort fun x y=>decide (x≤y)
def tidyB (xs:List ByteArray):List ByteArray:=backB (Lib.compact (sortB xs))
theorem enc_back (ls:List (List UInt8)):ls.map encStr=encs Value.string (backB ls):=by
 unfold encs backB
 rw [List.map_map]
 apply List.map_congr_left
 intro x _
 simp [encStr]
theorem enc_raw (xs:List ByteArray):encs Value.string xs=(rawB xs).map encStr:=(Lib.map_encStr xs).symm
theorem sortB_length (xs:List ByteArray):(sortB xs).length=xs.length:=by unfold sortB rawB;simp
theorem backB_length (ls:List (List UInt8)):(backB ls).length=ls.length:=by unfold backB;simp
theorem sortB_nil:sortB []=[]:=List.length_eq_zero_iff.1 (sortB_length [])
theorem sorted_own {w wr:World} (v:Value) (xs:List ByteArray) (h:Kd.R Kd.string 9 wr w.heap.size (fun _=>True) v xs) (hb:Below w.heap.size w wr) (hl:xs.length<4398046511104) :
 Calls Tryz.prog 323 #[v] wr fun e w'=>e=.returned (.tuple #[])∧Kd.R Kd.string 9 w' w.heap.size (fun _=>True) v (backB (sortB xs))∧Below w.heap.size w w':=by
 have ho:=Kd.own_of_R h;rw [enc_raw] at ho;have hlr:(rawB xs).length=xs.length:=by unfold rawB;simp
 rcases ho.2 with ⟨rfl,h0⟩|⟨g,cap,cur,rfl,hbase,hbk,h1,h2,h3,h4⟩
 ·refine (sortNil wr).mono ?_;rintro e w' ⟨rfl,rfl⟩;have:xs=[]:=List.length_eq_zero_iff.1 h0;subst this;exact ⟨rfl,by rw [sortB_nil];exact Kd.R_nil _ _ _ _ _,hb⟩
 ·rw [Nat.mul_one,← hlr] at h4;have hH:=holds_of_block hbk h4;have hlt:g<wr.heap.size:=(Array.getElem?_eq_some_iff.1 hbk).1;have C:=Tryz.slices_Sort_string g 0 cap (rawB xs) wr hH hlt (by omega);rw [hlr] at C;refine C.mono ?_;rintro e w' ⟨rfl,n,os,rfl⟩;refine ⟨rfl,?_,hb.grown (grownBy_sorted _) hb.size (fun k hk=>by injection hk with hk;omega)⟩;refine Kd.R_of_own ?_ (fun _ _=>trivial);rw [← enc_back,backB_length,sortB_length];have:=ownsRow_sorted (n:=n) (os:=os) (ts:=sortB xs) (ss:=rawB xs) (by rw [sortB_length,hlr]) hbase hbk (by omega) h2 h3;rw [hlr] at this;exact this
theorem compact_own {w wr:World} (v:Value) (xs:List ByteArray) (h:Kd.R Kd.string 9 wr w.heap.size (fun _=>True) v xs) (hb:Below w.heap.size w wr) (hl:xs.length<4398046511104) :
 Calls Tryz.prog 324 #[v] wr fun e w'=>∃ A n c,e=.returned (.slice A n c)∧n≤c∧c≤9223372036854775807∧Kd.R Kd.string 9 w' w.heap.size (fun _=>True) (.slice A n c) (backB (Lib.compact (rawB xs)))∧Below w.heap.size w w':=by
 have ho:=Kd.own_of_R h;rw [enc_raw] at ho;have hlr:(rawB xs).length=xs.length:=by unfold rawB;simp
 rcases ho.2 with ⟨rfl,h0⟩|⟨g,cap,cur,rfl,hbase,hbk,h1,h2,h3,h4⟩
 ·refine (Tryz.slices_Compact_string_empty none 0 wr).mono ?_;rintro e w' ⟨rfl,rfl⟩;have:xs=[]:=List.length_eq_zero_iff.1 h0;subst this;exact ⟨none,0,0,rfl,by omega,by omega,Kd.R_nil _ _ _ _ _,hb⟩
 ·have h4':=h4;rw [Nat.mul_one,← hlr] at h4';have hH:=holds_of_block hbk h4';have hlt:g<wr.heap.size:=(Array.getElem?_eq_some_iff.1 hbk).1;have C:=Tryz.slices_Compact_string g 0 cap (rawB xs) wr hH (by omega) (by omega);rw [hlr] at C;refine C.mono ?_;rintro e w' ⟨rfl,q,rfl⟩;have hcl:=Lib.compact_length_le (rawB xs);refine ⟨_,_,_,rfl,by omega,by unfold maxLen at h2;omega,?_,Lib.below_putRow hb hbase⟩;refine Kd.R_of_own ?_ (fun _ _=>trivial);rw [← enc_back,backB_length];have:=Lib.ownsRow_putRow (q:=q) (k:=(Lib.compact (rawB xs)).length) (ys:=Lib.compact (rawB xs)++List.replicate (xs.length - (Lib.compact (rawB xs)).length) []) ho (by simp;omega) (by omega);rw [List.take_left] at this;exact this
open Go.RowKit Go.Proofs.YtbahacapnaohcaaGreatDoorW.PrintWords Go.Proofs.YtbahacapnaohcaaGreatDoorW.PrintLast Go.Proofs.YtbahacapnaohcaaGreatDoorW.PrintMore Go.Shelf Go.Sort
def isName (x:S102):Bool:=decide (x.f0=2)||decide (x.f0=13)
def namesRaw (l:List S102):List ByteArray:=(l.filter isName).map (·.f2)
theorem raw_back (ls:List (List UInt8)):rawB (backB ls)=ls:=by unfold rawB backB;rw [List.map_map];exact (List.map_congr_left (fun x _=>by simp)).trans (List.map_id ls)
theorem namesRaw_len (l:List S102):(namesRaw l).length≤l.length:=by unfold namesRaw;rw [List.length_map];exact List.length_filter_le _ _
theorem namesRaw_take (l:List S102) (k:Nat) (h:k<l.length):namesRaw (l.take (k+1))=namesRaw (l.take k)++(if isName l[k]=true then [l[k].f2] else []):=by
 unfold namesRaw
 rw [List.take_succ_eq_append_getElem h,List.filter_append,List.map_append]
 congr 1
 by_cases hn:isName l[k]=true
 ·simp [hn]
 ·simp [hn]
set_option maxHeartbeats 4000000 in
set_option maxRecDepth 100000 in
theorem names_calls (A0:Option Addr) (c0:Nat) (l0:List S102) (w:World) (hr0:Kd.C k102 w A0 l0.length l0) (hn:l0.length<4398046511104) :
 Calls Tryz.prog 288 #[.agg #[.slice A0 l0.length c0]] w fun e w'=>∃ A n,e=.returned (.slice A n n)∧n=(tidyB (namesRaw l0)).length∧Kd.C Kd.string w' A n (tidyB (namesRaw l0))∧(∀ a,A=some a→∃ cur,w'.heap[a.block]?=some (.cells cur 9 (0,0)))∧Below w.heap.size w w':=by
 have HR0:=am hr0;have HN:=am hn;clear hr0 hn;have hu25:=Tryz.underlying25;have hu102:=Tryz.underlying102;have hlen:l0.length≤9223372036854775807:=HR0.out.2.1;go_enter Tryz.func288,Tryz.ntmps288;go_wp2
 go_loopw [3,9] (fun v i wr=>∃ (k:Nat),k≤l0.length∧i=.int .i64 k∧Aside0 (Kd.R Kd.string 9 wr w.heap.size (fun _=>True) v (namesRaw (l0.take k)))∧Aside0 (Below w.heap.size w wr)) (fun _ i _=>l0.length - (intOf i).toNat)
 case atStart=>exact ⟨0,Nat.zero_le _,rfl,⟨Kd.R_nil _ _ _ _ _⟩,⟨be⟩⟩
 case round=>
  obtain ⟨k,hk,rfl,HO,HB⟩:=hrel
  by_cases hlt:k<l0.length
  ·obtain ⟨ad,e0,hx0,hx1,hx2⟩:=at_T102 HR0.out (k:Int) (by omega) (by omega);subst e0;rw [rdT102_get hlt] at hx0 hx1 hx2;have HT:=am (namesRaw_take l0 k hlt);obtain ⟨y,hy⟩:∃ y,y=l0[k]:=⟨_,rfl⟩;rw [← hy] at hx0 hx1 hx2 HT;replace hx0:=(pb HB.out hx0);replace hx1:=(pb HB.out hx1);replace hx2:=(pb HB.out hx2);simp only [Int.toNat_natCast] at hx0 hx1 hx2;clear hy;have HL:=am (Nat.le_trans (namesRaw_len (l0.take k)) (by rw [List.length_take];omega:(l0.take k).length≤l0.length))
   by_cases hk2:y.f0=2
   ·have hk2b:(y.f0 == 2)=true:=by simpa using hk2
    go_wp2_with (first|omega|(at_builtin;refine Kd.R_append Kd.string (w0:=w) w.heap.size rfl _ _ 35 9 (.string ⟨#[]⟩) 16 rfl Tryz.underlying35 info9 rfl (by decide) (by omega) u3 (namesRaw (l0.take k)) y.f2 [.string y.f2] (fun _=>True) (fun _=>False) rfl (by first|(go_simp;done)|(go_simp;rfl)) rfl (fun _ h=>h.elim) (fun _ _=>trivial) (Kd.R_alloc HO.out _) (bo HB) (below_size (bo HB)) (by have:=HL.out;have:=HN.out;omega) ?_;intro v1 w2 ho hb hg hat;have HO1:=am ho;have HB1:=am hb;clear ho hb hg hat))
    go_roundw
    case rel=>exact ⟨k+1,by omega,by go_num,⟨by rw [HT.out,if_pos (by unfold isName;simp [hk2])];exact HO1.out⟩,HB1⟩
    case measure=>simp [intOf];omega
   ·have hk2b:(y.f0 == 2)=false:=by simpa using hk2
    by_cases hk3:y.f0=13
    ·have hk3b:(y.f0 == 13)=true:=by simpa using hk3
     go_wp2_with (first|omega|(at_builtin;refine Kd.R_append Kd.string (w0:=w) w.heap.size rfl _ _ 35 9 (.string ⟨#[]⟩) 16 rfl Tryz.underlying35 info9 rfl (by decide) (by omega) u3 (namesRaw (l0.take k)) y.f2 [.string y.f2] (fun _=>True) (fun _=>False) rfl (by first|(go_simp;done)|(go_simp;rfl)) rfl (fun _ h=>h.elim) (fun _ _=>trivial) (Kd.R_alloc HO.out _) (bo HB) (below_size (bo HB)) (by have:=HL.out;have:=HN.out;omega) ?_;intro v1 w2 ho hb hg hat;have HO1:=am ho;have HB1:=am hb;clear ho hb hg hat))
     go_roundw
     case rel=>exact ⟨k+1,by omega,by go_num,⟨by rw [HT.out,if_pos (by unfold isName;simp [hk3])];exact HO1.out⟩,HB1⟩
     case measure=>simp [intOf];omega
    ·have hk3b:(y.f0 == 13)=false:=by simpa using hk3
     go_wp2_with (omega)
     go_roundw
     case rel=>exact ⟨k+1,by omega,by go_num,⟨by rw [HT.out,if_neg (by unfold isName;simp [hk2,hk3]),List.append_nil];exact Kd.R_alloc HO.out _⟩,⟨bo HB⟩⟩
     case measure=>simp [intOf];omega
  ·have HO1:Aside0 (Kd.R Kd.string 9 wr w.heap.size (fun _=>True) u3 (namesRaw l0)):=⟨by have h:=HO.out;rw [List.take_of_length_le (by omega)] at h;exact h⟩;have HL:Aside0 ((namesRaw l0).length<4398046511104):=⟨Nat.lt_of_le_of_lt (namesRaw_len l0) HN.out⟩;clear HO;go_wp2_with (omega);refine (sorted_own (w:=w) u3 (namesRaw l0) HO1.out HB.out HL.out).mono ?_;rintro e w1 ⟨rfl,ho,hb⟩;have HO2:=am ho;have HB1:=am hb;clear ho hb HB HO1;go_wp2_with fail;refine (compact_own (w:=w) u3 (backB (sortB (namesRaw l0))) HO2.out HB1.out (by rw [backB_length,sortB_length];exact HL.out)).mono ?_;rintro e w2 ⟨A,n,c,rfl,hnc,hc63,ho,hb⟩;rw [raw_back] at ho;have HO3:Aside0 (Kd.R Kd.string 9 w2 w.heap.size (fun _=>True) (.slice A n c) (tidyB (namesRaw l0))):=⟨ho⟩;have HB2:=am hb;clear ho hb HB1 HO2;go_wp2_with fail;refine (clipS A n c hnc hc63 _).mono ?_;rintro e w3 ⟨rfl,rfl⟩;go_wp2_with fail;go_ret;obtain ⟨A',c',e1,_,hC⟩:=Kd.R_reads HO3.out;injection e1 with e2 e3 _
   subst e2;subst e3;exact ⟨_,_,rfl,rfl,hC,fun a ha=>by subst ha;obtain ⟨inner,ho⟩:=Kd.R_own HO3.out;exact own_typed ho a.block (by simp [Value.ownBlock]),HB2.out⟩
end Go.Proofs.YtbahacapnaohcaaGreatDoor.PB
