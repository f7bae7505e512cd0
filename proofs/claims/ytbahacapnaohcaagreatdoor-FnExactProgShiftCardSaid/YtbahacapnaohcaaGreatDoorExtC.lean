import Derived.Test.YtbahacapnaohcaaGreatDoorExtB
import Derived.Test.YtbahacapnaohcaaGreatDoorExtI
import Derived.Test.YtbahacapnaohcaaGreatDoorA7
set_option linter.unusedVariables false
set_option linter.unusedSimpArgs false
namespace Go.Proofs.YtbahacapnaohcaaGreatDoor.PB
open Go.RowKit Go.Proofs.YtbahacapnaohcaaGreatDoorW.PrintWords Go.Proofs.YtbahacapnaohcaaGreatDoorW.PrintLast Go.Proofs.YtbahacapnaohcaaGreatDoorW.PrintMore
theorem bcell {W w1:World} (hb:Below W.heap.size W w1):(∀ b o,b<W.heap.size→w1.cell? ⟨b,o,none⟩=W.cell? ⟨b,o,none⟩)∧(∀ b o,b<W.heap.size→w1.frozen? ⟨b,o,none⟩=W.frozen? ⟨b,o,none⟩):=
 ⟨fun b o h=>hb.cell (p:=⟨b,o,none⟩) h,fun b o h=>hb.frozen (p:=⟨b,o,none⟩) h⟩
def isNamed (nm:ByteArray) (x:S65):Bool:=x.f0.toList == nm.toList
set_option maxHeartbeats 1000000 in
set_option maxRecDepth 100000 in
theorem clo213 (nm:ByteArray) (gb:Nat) (w:World) (hb:w.cell? ⟨gb,0,none⟩=some (.string nm)) (l0:List S65):Pred_d213 gb (isNamed nm) w l0:=by
 intro x A1 c1 A2 c2 hx W hB hrd;have h1:=pb hB hb;have hlt:=World.block_lt_of_cell? W _ h1;clear hb hB hrd hx;have hu65:=Tryz.underlying65;go_enter Tryz.func213,Tryz.ntmps213;go_wp2_with fail;go_ret;exact ⟨by rfl,by repeat (first|exact Below.refl _ _|apply below_alloc|apply pw_below_drewN|apply below_drew1)⟩
noncomputable def impl_Prog_defAt.f (l0_0:List S65) (l0_1:List ByteArray) (l0_2:List S63) (a1:ByteArray):Option Int:=some (idxP (isNamed a1) l0_0 0)
set_option maxHeartbeats 1000000 in
set_option maxRecDepth 100000 in
theorem impl_Prog_defAt.calls (A0_0:Option Addr) (c0_0:Nat) (l0_0:List (S65)) (A0_1:Option Addr) (c0_1:Nat) (l0_1:List ByteArray) (A0_2:Option Addr) (c0_2:Nat) (l0_2:List (S63)) (a1:ByteArray) (r:Int) (w:World) (hr0_0:Kd.C k65 w A0_0 l0_0.length l0_0) (hc0_0:l0_0.length≤c0_0) (hr0_1:Kd.C Kd.string w A0_1 l0_1.length l0_1) (hc0_1:l0_1.length≤c0_1) (hr0_2:Kd.C k63 w A0_2 l0_2.length l0_2) (hc0_2:l0_2.length≤c0_2) (h:impl_Prog_defAt.f l0_0 l0_1 l0_2 a1=some r) :
 Calls Tryz.prog 113 #[.agg #[.slice A0_0 l0_0.length c0_0,.slice A0_1 l0_1.length c0_1,.slice A0_2 l0_2.length c0_2],.string a1] w fun e w'=>e=.returned (.int .i64 r)∧Below w.heap.size w w':=by
 have HR:=am hr0_0;clear hr0_0 hc0_0 hr0_1 hc0_1 hr0_2 hc0_2;obtain rfl:=Option.some.inj h;clear h;have hu38:=Tryz.underlying38;go_enter Tryz.func113,Tryz.ntmps113;go_wp2_with fail;refine (index_d213 _ (isNamed a1) A0_0 c0_0 l0_0 _ ?s1 ?s2).mono ?_
 case s1=>exact Kd.C_alloc (Kd.C_alloc HR.out _) _
 case s2=>exact clo213 a1 _ _ (by simp [go_sem]) l0_0
 rintro e w1 ⟨rfl,hb⟩;have HB:=am (below_step (w:=w) (by repeat (first|exact Below.refl _ _|apply below_alloc|apply pw_below_drewN|apply below_drew1)) hb);clear hb;go_wp2_with fail;go_ret;exact ⟨rfl,HB.out⟩
def longParams (x:S65):Bool:=decide (6<x.f1.length)
set_option maxHeartbeats 1000000 in
set_option maxRecDepth 100000 in
theorem clo195 (w:World) (l0:List S65):Pred_d195 longParams w l0:=by
 intro x A1 c1 A2 c2 hx W hB hrd;have hl:x.f1.length≤9223372036854775807:=hrd.2.1.2.1;have hm:x.f1.length≤9223372036854775807∧True:=⟨hl,trivial⟩;clear hB hrd hx;have hu65:=Tryz.underlying65
 unfold longParams
 by_cases h6:6<x.f1.length
 ·go_enter Tryz.func195,Tryz.ntmps195;go_wp2;go_ret;exact ⟨by first|(simp [h6];done)|(simp [h6];omega),(by repeat (first|exact Below.refl _ _|apply below_alloc|apply pw_below_drewN|apply below_drew1))⟩
 ·go_enter Tryz.func195,Tryz.ntmps195;go_wp2;go_ret;exact ⟨by first|(simp [h6];done)|(simp [h6];omega),(by repeat (first|exact Below.refl _ _|apply below_alloc|apply pw_below_drewN|apply below_drew1))⟩
def manyB (l0_0:List S65) (l0_1:List ByteArray) (l0_2:List S63):Bool:=decide (12<l0_0.length)||(decide (6<l0_1.length)||(decide (12<l0_2.length)||l0_0.any longParams))
def impl_Prog_many.f (l0_0:List S65) (l0_1:List ByteArray) (l0_2:List S63):Option Bool:=some (manyB l0_0 l0_1 l0_2)
set_option maxHeartbeats 2000000 in
set_option maxRecDepth 100000 in
theorem impl_Prog_many.calls (A0_0:Option Addr) (c0_0:Nat) (l0_0:List (S65)) (A0_1:Option Addr) (c0_1:Nat) (l0_1:List ByteArray) (A0_2:Option Addr) (c0_2:Nat) (l0_2:List (S63)) (r:Bool) (w:World) (hr0_0:Kd.C k65 w A0_0 l0_0.length l0_0) (hc0_0:l0_0.length≤c0_0) (hr0_1:Kd.C Kd.string w A0_1 l0_1.length l0_1) (hc0_1:l0_1.length≤c0_1) (hr0_2:Kd.C k63 w A0_2 l0_2.length l0_2) (hc0_2:l0_2.length≤c0_2) (h:impl_Prog_many.f l0_0 l0_1 l0_2=some r) :
 Calls Tryz.prog 89 #[.agg #[.slice A0_0 l0_0.length c0_0,.slice A0_1 l0_1.length c0_1,.slice A0_2 l0_2.length c0_2]] w fun e w'=>e=.returned (.bool r)∧Below w.heap.size w w':=by
 have HR:=am hr0_0;have n1:l0_0.length≤9223372036854775807:=hr0_0.2.1;have n2:l0_1.length≤9223372036854775807:=hr0_1.2.1;have n3:l0_2.length≤9223372036854775807:=hr0_2.2.1;clear hr0_0 hc0_0 hr0_1 hc0_1 hr0_2 hc0_2;obtain rfl:=Option.some.inj h;clear h;have hu38:=Tryz.underlying38
 unfold manyB
 by_cases h1:12<l0_0.length
 ·go_enter Tryz.func89,Tryz.ntmps89;go_wp2;go_ret;exact ⟨by first|(simp [h1];done)|(simp [h1];omega),(by repeat (first|exact Below.refl _ _|apply below_alloc|apply pw_below_drewN|apply below_drew1))⟩
 by_cases h2:6<l0_1.length
 ·go_enter Tryz.func89,Tryz.ntmps89;go_wp2;go_ret;exact ⟨by first|(simp [h2];done)|(simp [h2];omega),(by repeat (first|exact Below.refl _ _|apply below_alloc|apply pw_below_drewN|apply below_drew1))⟩
 by_cases h3:12<l0_2.length
 ·go_enter Tryz.func89,Tryz.ntmps89;go_wp2;go_ret;exact ⟨by first|(simp [h3];done)|(simp [h3];omega),(by repeat (first|exact Below.refl _ _|apply below_alloc|apply pw_below_drewN|apply below_drew1))⟩
 have HX:Aside0 ((decide (12<l0_0.length)||(decide (6<l0_1.length)||(decide (12<l0_2.length)||l0_0.any longParams)))=l0_0.any longParams):=⟨by simp [h1,h2,h3]⟩;generalize (decide (12<l0_0.length)||(decide (6<l0_1.length)||(decide (12<l0_2.length)||l0_0.any longParams)))=r at HX ⊢;have hX:=HX.out;subst hX;clear HX;go_enter Tryz.func89,Tryz.ntmps89;go_wp2_with fail;refine (contains_d195 longParams A0_0 c0_0 l0_0 _ ?s1 (clo195 _ _)).mono ?_
 case s1=>exact Kd.C_alloc HR.out _
 rintro e w1 ⟨rfl,hb⟩;have HB:=am (below_step (w:=w) (by repeat (first|exact Below.refl _ _|apply below_alloc|apply pw_below_drewN|apply below_drew1)) hb);clear hb;go_wp2_with fail;go_ret;exact ⟨by
  have e1:decide (12<(l0_0.length:Int))=false:=by simp;omega
  have e2:decide (6<(l0_1.length:Int))=false:=by simp;omega
  have e3:decide (12<(l0_2.length:Int))=false:=by simp;omega
  simp [e1,e2,e3],HB.out⟩
def twiceFrom:List ByteArray→List ByteArray→Nat→Bool
 | _,[],_=>false
 | l,x :: r,k=>decide (idxOf x (l.take k) 0≥0)||twiceFrom l r (k+1)
def twiceB (l:List ByteArray):Bool:=twiceFrom l l 0
theorem twice_l0 (l:List ByteArray) (hn:l.length≤9223372036854775807):∀ (d k:Nat),k≤l.length→(l.length - k)+l.length<d→
 impl_twice.l0 d l l (l.length:Int) (k:Int)=some (twiceFrom l (l.drop k) k):=by
 intro d
 induction d with
 | zero=>intro k _ h;omega
 | succ d ih=>
  intro k hk hd;simp only [impl_twice.l0]
  by_cases hlt:k<l.length
  ·rw [if_pos (by omega),if_pos (by omega),if_pos (by omega),if_pos (by omega),rdStr_get hlt,Int.toNat_natCast];rw [contains_f _ _ (by rw [List.length_take];omega) d (by rw [List.length_take];omega),List.drop_eq_getElem_cons hlt];simp only [Option.bind_some,twiceFrom]
   by_cases hx:decide (idxOf l[k] (l.take k) 0≥0)=true
   ·rw [if_pos hx,hx];rfl
   ·rw [if_neg hx];have e2:wrap64 ((k:Int)+1)=((k+1:Nat):Int):=by unfold wrap64;omega
    rw [e2,ih (k+1) (by omega) (by omega)];have hx':decide (idxOf l[k] (l.take k) 0≥0)=false:=by simpa using hx
    rw [hx'];rfl
  ·rw [if_neg (by omega),List.drop_of_length_le (by omega)];rfl
theorem twice_f (l:List ByteArray) (hn:l.length≤9223372036854775807) (k:Nat) (hk:2 * l.length<k):impl_twice.f k l=some (twiceB l):=twice_l0 l hn k 0 (by omega) (by omega)
theorem namesOf_l0 (l0:List S65) (l1:List ByteArray) (l2:List S63) (hn:l0.length+l1.length<8796093022208):∀ (d k:Nat) (acc:List ByteArray),k≤l0.length→l0.length - k<d→acc=(l0.take k).map (·.f0)→
 impl_Prog_namesOf.l0 d acc l0 (l0.length:Int) (k:Int) l0 l1 l2=some (l0.map (·.f0)++l1):=by
 intro d
 induction d with
 | zero=>intro k _ _ h;omega
 | succ d ih=>
  intro k acc hk hd hacc;have hal:acc.length=k:=by rw [hacc,List.length_map,List.length_take];omega
  simp only [impl_Prog_namesOf.l0]
  by_cases hlt:k<l0.length
  ·rw [if_pos (by omega),if_pos (by omega),if_pos (by omega),if_pos (by omega),rdT65_get hlt];have e2:wrap64 ((k:Int)+1)=((k+1:Nat):Int):=by unfold wrap64;omega
   rw [e2];refine ih (k+1) _ (by omega) (by omega) ?_;rw [hacc,List.take_succ_eq_append_getElem hlt,List.map_append];rfl
  ·rw [if_neg (by omega),if_pos (by omega),hacc,List.take_of_length_le (by omega)]
theorem namesOf_f (l0:List S65) (l1:List ByteArray) (l2:List S63) (hn:l0.length+l1.length<8796093022208):impl_Prog_namesOf.f (l0.length+1) l0 l1 l2=some (l0.map (·.f0)++l1):=
 namesOf_l0 l0 l1 l2 hn _ 0 [] (by omega) (by omega) rfl
def twiceParams (x:S65):Bool:=twiceB x.f1
set_option maxHeartbeats 1000000 in
set_option maxRecDepth 100000 in
theorem clo197 (w:World) (l0:List S65):Pred_d197 twiceParams w l0:=by
 intro x A1 c1 A2 c2 hx W hB hrd;have HT:=am (twice_f x.f1 hrd.2.1.2.1 _ (Nat.lt_succ_self _));have HR:=am hrd.2.1;have HC:=am hrd.1;clear hB hrd hx;have hu65:=Tryz.underlying65;go_enter Tryz.func197,Tryz.ntmps197;go_wp2_with fail;refine (impl_twice.calls _ _ _ x.f1 _ _ ?s1 HC.out HT.out).mono ?_
 case s1=>exact Kd.C_alloc HR.out _
 rintro e w1 ⟨rfl,hb⟩;have HB:=am (below_step (w:=W) (by repeat (first|exact Below.refl _ _|apply below_alloc|apply pw_below_drewN|apply below_drew1)) hb.below);clear hb;go_wp2_with fail;go_ret;exact ⟨rfl,HB.out⟩
def againB (l0_0:List S65) (l0_1:List ByteArray):Bool:=twiceB (l0_0.map (·.f0)++l0_1)||l0_0.any twiceParams
noncomputable def impl_Prog_again.f (l0_0:List S65) (l0_1:List ByteArray) (l0_2:List S63):Option Bool:=if l0_0.length+l0_1.length<8796093022208 then some (againB l0_0 l0_1) else none
set_option maxHeartbeats 2000000 in
set_option maxRecDepth 100000 in
theorem impl_Prog_again.calls (A0_0:Option Addr) (c0_0:Nat) (l0_0:List (S65)) (A0_1:Option Addr) (c0_1:Nat) (l0_1:List ByteArray) (A0_2:Option Addr) (c0_2:Nat) (l0_2:List (S63)) (r:Bool) (w:World) (hr0_0:Kd.C k65 w A0_0 l0_0.length l0_0) (hc0_0:l0_0.length≤c0_0) (hr0_1:Kd.C Kd.string w A0_1 l0_1.length l0_1) (hc0_1:l0_1.length≤c0_1) (hr0_2:Kd.C k63 w A0_2 l0_2.length l0_2) (hc0_2:l0_2.length≤c0_2) (h:impl_Prog_again.f l0_0 l0_1 l0_2=some r) :
 Calls Tryz.prog 90 #[.agg #[.slice A0_0 l0_0.length c0_0,.slice A0_1 l0_1.length c0_1,.slice A0_2 l0_2.length c0_2]] w fun e w'=>e=.returned (.bool r)∧Below w.heap.size w w':=by
 have H0:=am hr0_0;have H1:=am hr0_1;have H2:=am hr0_2;have C0:=am hc0_0;have C1:=am hc0_1;have C2:=am hc0_2;clear hr0_0 hc0_0 hr0_1 hc0_1 hr0_2 hc0_2
 unfold impl_Prog_again.f at h
 by_cases hs:l0_0.length+l0_1.length<8796093022208
 case neg=>rw [if_neg hs] at h;cases h
 rw [if_pos hs] at h;obtain rfl:=Option.some.inj h;clear h;have HN:=am (namesOf_f l0_0 l0_1 l0_2 hs);obtain ⟨nm,hnm⟩:∃ nm,nm=l0_0.map (·.f0)++l0_1:=⟨_,rfl⟩;have HT:=am (twice_f nm (by rw [hnm,List.length_append,List.length_map];omega) _ (Nat.lt_succ_self _));have HQ:Aside0 (againB l0_0 l0_1=(twiceB nm||l0_0.any twiceParams)):=⟨by rw [hnm];rfl⟩;rw [← hnm] at HN;clear hs hnm;generalize againB l0_0 l0_1=r at HQ ⊢;have hQ:=HQ.out;subst hQ;clear HQ;have hu38:=Tryz.underlying38;generalize hbt:twiceB nm=bt at HT ⊢;clear hbt
 cases bt with
 | true=>
  go_enter Tryz.func90,Tryz.ntmps90;go_wp2_with fail;refine (impl_Prog_namesOf.calls _ _ _ l0_0 _ _ l0_1 _ _ l0_2 nm _ ?s0 C0.out ?s1 C1.out ?s2 C2.out HN.out).mono ?_
  case s0=>exact Kd.C_alloc H0.out _
  case s1=>exact Kd.C_alloc H1.out _
  case s2=>exact Kd.C_alloc H2.out _
  rintro e w1 ⟨v,rfl,ho,hb⟩;have HB:=am (below_step (w:=w) (by repeat (first|exact Below.refl _ _|apply below_alloc|apply pw_below_drewN|apply below_drew1)) hb);obtain ⟨Av,cv,rfl,hlv,hrv⟩:=Kd.R_reads ho;have HR:=am hrv;have HL:=am hlv;clear hb ho hlv hrv;go_wp2_with fail;refine (impl_twice.calls _ _ _ nm _ _ HR.out HL.out HT.out).mono ?_;rintro e w2 ⟨rfl,hb⟩;have HB2:=am (below_step HB.out hb.below);clear hb HB;go_wp2_with fail;go_ret;exact ⟨by simp,HB2.out⟩
 | false=>
  go_enter Tryz.func90,Tryz.ntmps90;go_wp2_with fail;refine (impl_Prog_namesOf.calls _ _ _ l0_0 _ _ l0_1 _ _ l0_2 nm _ ?s0 C0.out ?s1 C1.out ?s2 C2.out HN.out).mono ?_
  case s0=>exact Kd.C_alloc H0.out _
  case s1=>exact Kd.C_alloc H1.out _
  case s2=>exact Kd.C_alloc H2.out _
  rintro e w1 ⟨v,rfl,ho,hb⟩;obtain ⟨hc0,hf0⟩:=bcell (W:=w.alloc (.cells #[.slice A0_0 l0_0.length c0_0,.slice A0_1 l0_1.length c0_1,.slice A0_2 l0_2.length c0_2] 38)) hb;have hx0:w1.cell? ⟨w.heap.size,0,none⟩=some (.slice A0_0 l0_0.length c0_0):=by rw [hc0 _ _ (by simp)];simp [go_sem]
  clear hc0 hf0;have HB:=am (below_step (w:=w) (by repeat (first|exact Below.refl _ _|apply below_alloc|apply pw_below_drewN|apply below_drew1)) hb);obtain ⟨Av,cv,rfl,hlv,hrv⟩:=Kd.R_reads ho;have HR:=am hrv;have HL:=am hlv;clear hb ho hlv hrv;go_wp2_with fail;refine (impl_twice.calls _ _ _ nm _ _ HR.out HL.out HT.out).mono ?_;rintro e w2 ⟨rfl,hb⟩;have hx1:=pb hb.below hx0;have HB2:=am (below_step HB.out hb.below);clear hb HB hx0;go_wp2_with fail;refine (contains_d197 twiceParams A0_0 c0_0 l0_0 _ ?s1 (clo197 _ _)).mono ?_
  case s1=>exact Kd.C_below H0.out HB2.out
  rintro e w3 ⟨rfl,hb⟩;have HB3:=am (below_step HB2.out hb);clear hb hx1;go_wp2_with fail;go_ret;exact ⟨by simp,HB3.out⟩
end Go.Proofs.YtbahacapnaohcaaGreatDoor.PB
