import Derived.Test.YtbahacapnaohcaaGreatDoorA6
set_option linter.unusedVariables false
set_option linter.unusedSimpArgs false
namespace Go.Proofs.YtbahacapnaohcaaGreatDoor.PB
open Go.RowKit Go.Proofs.YtbahacapnaohcaaGreatDoorW.PrintWords Go.Proofs.YtbahacapnaohcaaGreatDoorW.PrintLast Go.Proofs.YtbahacapnaohcaaGreatDoorW.PrintMore
def ownList:List ByteArray:=[⟨#[100,101,102]⟩,⟨#[118,97,114]⟩,⟨#[115,113,114,116]⟩,⟨#[97,98,115]⟩,⟨#[109,105,110]⟩,⟨#[109,97,120]⟩]
structure GV (w:World):Prop where
 out:∃ ad c,w.cell? ⟨1,0,none⟩=some (.slice (some ad) 6 c)∧6≤c∧Kd.C Kd.string w (some ad) 6 ownList
 ml:∃ m,w.cell? ⟨2,0,none⟩=some (.int .i64 m)
 es:∃ ev,w.cell? ⟨6,0,none⟩=some ev∧(ev=.nilIface∨∃ te pe,ev=.iface te pe)
 er:∃ ev,w.cell? ⟨7,0,none⟩=some ev∧(ev=.nilIface∨∃ te pe,ev=.iface te pe)
theorem GV.below {w w1:World} (h:GV w) (hb:Below w.heap.size w w1):GV w1:=by
 obtain ⟨⟨ad,c,h1,h2,h3⟩,⟨m,hm⟩,⟨e,he,he2⟩,⟨f,hf,hf2⟩⟩:=h;exact ⟨⟨ad,c,pb hb h1,h2,Kd.C_below h3 hb⟩,⟨m,pb hb hm⟩,⟨e,pb hb he,he2⟩,⟨f,pb hb hf,hf2⟩⟩
def idxOf (x:ByteArray):List ByteArray→Nat→Int
 | [],_=>-1
 | y :: l,k=>if x.toList=y.toList then (k:Int) else idxOf x l (k+1)
theorem index_l0 (x:ByteArray) (l:List ByteArray) (hn:l.length≤9223372036854775807):∀ (d k:Nat),k≤l.length→l.length - k<d→
 slices_Index_string_string.l0 d l x (l.length:Int) (k:Int)=some (idxOf x (l.drop k) k):=by
 intro d
 induction d with
 | zero=>intro k _ h;omega
 | succ d ih=>
  intro k hk hd;simp only [slices_Index_string_string.l0]
  by_cases hlt:k<l.length
  ·rw [if_pos (by omega),if_pos (by omega),if_pos (by omega)];have e:rdOf ByteArray.empty l (k:Int)=l[k]:=by unfold rdOf;rw [Int.toNat_natCast,List.getD_eq_getElem?_getD,List.getElem?_eq_getElem hlt];rfl
   rw [e,List.drop_eq_getElem_cons hlt];simp only [idxOf]
   by_cases hx:x.toList=l[k].toList
   ·rw [if_pos hx,if_pos hx]
   ·rw [if_neg hx,if_neg hx];have e2:wrap64 ((k:Int)+1)=((k+1:Nat):Int):=by unfold wrap64;omega
    rw [e2];exact ih (k+1) (by omega) (by omega)
  ·rw [if_neg (by omega),List.drop_of_length_le (by omega)];rfl
theorem index_f (x:ByteArray) (l:List ByteArray) (hn:l.length≤9223372036854775807) (k:Nat) (hk:l.length<k):slices_Index_string_string.f k l x=some (idxOf x l 0):=
 index_l0 x l hn k 0 (by omega) (by omega)
theorem contains_f (x:ByteArray) (l:List ByteArray) (hn:l.length≤9223372036854775807) (k:Nat) (hk:l.length<k):slices_Contains_string_string.f k l x=some (decide (idxOf x l 0≥0)):=by
 unfold slices_Contains_string_string.f
 rw [index_f x l hn k hk];rfl
noncomputable def wordB (s:ByteArray):Bool:=(impl_wordOk.f (s.size+1) s).getD false
theorem word_l0 (s:ByteArray) (hn:s.size≤9223372036854775807):∀ (d k:Nat),k≤s.size→s.size - k<d→∃ r,impl_wordOk.l0 d s (s.size:Int) (k:Int)=some r:=by
 intro d
 induction d with
 | zero=>intro k _ h;omega
 | succ d ih=>
  intro k hk hd;have e2:wrap64 ((k:Int)+1)=((k+1:Nat):Int)∨¬ k<s.size:=by unfold wrap64;omega
  simp only [impl_wordOk.l0]
  by_cases hlt:k<s.size
  ·rw [if_pos (by omega),if_pos (by omega),if_pos (by omega)]
   rcases e2 with e2|e2
   ·rw [e2];obtain ⟨r,hr⟩:=ih (k+1) (by omega) (by omega);rw [hr]
    unfold impl_isLetter.f impl_isFigure.f
    by_cases h1:bt s (k:Int)≥97 <;> by_cases h2:bt s (k:Int)≤122 <;> by_cases h3:bt s (k:Int)≥48 <;> by_cases h4:bt s (k:Int)≤57 <;> simp [h1,h2,h3,h4]
   ·exact absurd hlt e2
  ·rw [if_neg (by omega)]
   unfold impl_in.f impl_isLetter.f
   by_cases h1:(s.size:Int)≥1 <;> by_cases h2:(s.size:Int)≤8 <;> by_cases h3:bt s 0≥97 <;> simp [h1,h2,h3] <;> omega
theorem word_f (s:ByteArray) (hn:s.size≤9223372036854775807):impl_wordOk.f (s.size+1) s=some (wordB s):=by
 obtain ⟨r,hr⟩:=word_l0 s hn (s.size+1) 0 (by omega) (by omega);have:impl_wordOk.f (s.size+1) s=some r:=hr
 unfold wordB
 rw [this];rfl
noncomputable def nameB (s:ByteArray):Bool:=wordB s&&!decide (idxOf s ownList 0≥0)
noncomputable def impl_LangNameOk.f (a0:ByteArray):Option Bool:=if a0.size≤9223372036854775807 then some (nameB a0) else none
set_option maxHeartbeats 1000000 in
theorem impl_LangNameOk.calls (a0:ByteArray) (r:Bool) (w:World) (hG:GV w) (h:impl_LangNameOk.f a0=some r) :
 Calls Tryz.prog 78 #[.string a0] w fun e w'=>e=.returned (.bool r)∧Drawn0 w w':=by
 have HG:=am hG;clear hG
 unfold impl_LangNameOk.f at h
 by_cases hn:a0.size≤9223372036854775807
 case neg=>rw [if_neg hn] at h;cases h
 rw [if_pos hn] at h;obtain rfl:=Option.some.inj h;clear h;have HW:=am (word_f a0 hn);have HC:=am (contains_f a0 ownList (by decide) 7 (by decide));clear hn;obtain ⟨ad,c,g1,g2,g3⟩:=HG.out.out;have HR:=am g3;have HL:=am g2;clear g2 g3;have hword:∃ b,b=wordB a0:=⟨_,rfl⟩;obtain ⟨b,hb⟩:=hword;rw [← hb] at HW;have HN:Aside0 (nameB a0=(b&&!decide (idxOf a0 ownList 0≥0))):=⟨by rw [hb];rfl⟩;clear hb;generalize nameB a0=r at HN ⊢;generalize decide (idxOf a0 ownList 0≥0)=q at HN HC;have hN:=HN.out;subst hN;clear HN
 cases b with
 | false=>
  go_enter Tryz.func78,Tryz.ntmps78;go_wp2_with (go_at_call 180;refine (impl_wordOk.calls _ a0 _ _ HW.out).mono ?_;rintro e w' ⟨rfl,⟨nd,rfl⟩⟩);go_ret;exact ⟨by simp,by repeat (first|exact Drawn0.refl _|apply Drawn0.step)⟩
 | true=>
  go_enter Tryz.func78,Tryz.ntmps78;go_wp2_with (first|(go_at_call 180;refine (impl_wordOk.calls _ a0 _ _ HW.out).mono ?_;rintro e w' ⟨rfl,⟨nd,rfl⟩⟩)|(go_at_call 79;refine (slices_Contains_string_string.calls _ _ _ ownList a0 _ _ ?s1 ?s2 HC.out).mono ?_;(case s1=>exact Kd.C_drewN HR.out _);(case s2=>exact HL.out);rintro e w' ⟨rfl,⟨nd2,rfl⟩⟩));go_ret;exact ⟨by simp,by repeat (first|exact Drawn0.refl _|apply Drawn0.step)⟩
end Go.Proofs.YtbahacapnaohcaaGreatDoor.PB
