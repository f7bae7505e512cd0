import Derived.Test.YtbahacapnaohcaaGreatDoorExtB
import Derived.Test.YtbahacapnaohcaaGreatDoorShelf
set_option linter.unusedVariables false
set_option linter.unusedSimpArgs false
namespace Go.Proofs.YtbahacapnaohcaaGreatDoor.PB
open Go.RowKit Go.Proofs.YtbahacapnaohcaaGreatDoorW.PrintWords Go.Proofs.YtbahacapnaohcaaGreatDoorW.PrintLast Go.Proofs.YtbahacapnaohcaaGreatDoorW.PrintMore
theorem toList_data (s:ByteArray):s.toList=s.data.toList:=Lib.toList_data s
theorem bt_get (s:ByteArray) (k:Nat) (h:k<s.data.toList.length):bt s (k:Int)=((s.data.toList[k]).toNat:Int):=by
 unfold bt
 have h':(k:Int).toNat<s.size:=by simpa using h
 rw [dif_pos h'];rfl
def figU (c:UInt8):Bool:=decide (48≤c.toNat)&&decide (c.toNat≤57)
def digitsU (l:List UInt8):Bool:=l.all figU&&!l.isEmpty
def wholeU (l:List UInt8):Bool:=digitsU l&&(l == [48]||!(l.head? == some 48))
theorem digits_l0 (s:ByteArray) (hn:s.size≤9223372036854775807):∀ (d k:Nat),k≤s.size→s.size - k<d→impl_isDigits.l0 d s (s.size:Int) (k:Int)=some ((s.data.toList.drop k).all figU&&!s.data.toList.isEmpty):=by
 have hl:s.data.toList.length=s.size:=by simp
 intro d
 induction d with
 | zero=>intro k _ h;omega
 | succ d ih=>
  intro k hk hd;simp only [impl_isDigits.l0]
  by_cases hlt:k<s.size
  ·have hlt':k<s.data.toList.length:=by omega
   rw [if_pos (by omega),if_pos (by omega),if_pos (by omega),bt_get s k hlt',List.drop_eq_getElem_cons hlt',List.all_cons];have e2:wrap64 ((k:Int)+1)=((k+1:Nat):Int):=by unfold wrap64;omega
   rw [e2,ih (k+1) (by omega) (by omega)];generalize s.data.toList[k]=c
   unfold figU
   by_cases h1:c.toNat<48
   ·rw [if_pos (by omega),decide_eq_false (show ¬ 48≤c.toNat by omega)];rfl
   ·rw [if_neg (by omega),decide_eq_true (show 48≤c.toNat by omega)]
    by_cases h2:c.toNat > 57
    ·rw [if_pos (by omega),decide_eq_false (show ¬ c.toNat≤57 by omega)];rfl
    ·rw [if_neg (by omega),decide_eq_true (show c.toNat≤57 by omega)];rfl
  ·rw [if_neg (by omega),List.drop_of_length_le (by omega),toList_data]
   cases s.data.toList <;> rfl
theorem digits_f (s:ByteArray) (hn:s.size≤9223372036854775807):impl_isDigits.f (s.size+1) s=some (digitsU s.data.toList):=digits_l0 s hn _ 0 (by omega) (by omega)
theorem whole_f (s:ByteArray) (hn:s.size≤9223372036854775807):impl_wholeDigits.f (s.size+1) s=some (wholeU s.data.toList):=by
 unfold impl_wholeDigits.f
 rw [digits_f s hn,Option.bind_some,toList_data]
 unfold wholeU
 by_cases h:digitsU s.data.toList=true
 ·rw [if_pos h,h];have hne:0<s.data.toList.length:=by
   unfold digitsU at h
   cases hl:s.data.toList with
   | nil=>rw [hl] at h;simp at h
   | cons a b=>simp
  by_cases h2:s.data.toList=[48]
  ·rw [if_pos h2,h2];rfl
  ·rw [if_neg h2,if_pos (by (have:s.data.toList.length=s.size:=by simp);omega),show (0:Int)=((0:Nat):Int) from rfl,bt_get s 0 hne];have key:∀ l:List UInt8,l=s.data.toList→∀ h0:0<l.length,some (((l[0]).toNat:Int) != 48)=some (true&&(l == [48]||!(l.head? == some 48))):=by
    intro l hl h0;rw [← hl] at h2
    cases l with
    | nil=>simp at h0
    | cons a b=>
     have:((a :: b) == [48])=false:=by rw [beq_eq_false_iff_ne];exact h2
     rw [this];simp only [List.getElem_cons_zero,List.head?_cons,Bool.false_or,Bool.true_and]
     congr 1
     by_cases e:a=48
     ·subst e;rfl
     ·have:a.toNat≠48:=fun q=>e (UInt8.toNat_inj.1 q)
      have h3:(some a == some (48:UInt8))=false:=by simpa using e
      rw [h3]
      simp;omega
   exact key _ rfl hne
 ·rw [if_neg h];have:digitsU s.data.toList=false:=by simpa using h
  rw [this];rfl
def minusU (l:List UInt8):Bool:=l.head? == some 45
def restU (l:List UInt8):List UInt8:=if minusU l then l.drop 1 else l
def powU (l:List UInt8):Bool:=match Lib.atoiAll (restU l) with
 | .ok n=>wholeU (restU l)&&(decide ((restU l).length≤3)&&(decide (n≤400)&&!(minusU l&&decide (n=0))))
 | _=>false
def headU (l:List UInt8):Bool:=wholeU (Lib.cut l [46]).1&&(!(Lib.cut l [46]).2.2||digitsU (Lib.cut l [46]).2.1)
def litU (l:List UInt8):Bool:=headU (Lib.cut l [101]).1&&(!(Lib.cut l [101]).2.2||powU (Lib.cut l [101]).2.1)
theorem cut_len1 (l sep:List UInt8):(Lib.cut l sep).1.length≤l.length:=by unfold Lib.cut;split <;> simp <;> omega
theorem cut_len2 (l sep:List UInt8):(Lib.cut l sep).2.1.length≤l.length:=by unfold Lib.cut;split <;> simp
theorem cutPrefix_lite (s:ByteArray) (w:World) (hs:s.size<4294967281) :
 Calls Tryz.prog 360 #[.string s,.string ⟨#[45]⟩] w fun e w'=>e=.returned (.tuple #[.string ⟨(restU s.data.toList).toArray⟩,.bool (minusU s.data.toList)])∧w'=w:=by
 obtain ⟨b,hb⟩:∃ b,b=Lib.hasPrefix s.data.toList [45]:=⟨_,rfl⟩;have hmb:minusU s.data.toList=b:=by
  rw [hb];unfold minusU Lib.hasPrefix
  cases s.data.toList with
  | nil=>rfl
  | cons a l=>simp [List.isPrefixOf,Bool.beq_comm]
 have HP:Calls Tryz.prog 316 #[.string s,.string ⟨#[45]⟩] w fun e w'=>e=.returned (.bool b)∧w'=w:=by rw [hb];exact Tryz.stringslite_HasPrefix s _ w
 rw [hmb]
 unfold restU;rw [hmb]
 clear hb;have hsz:b=true→1≤s.size:=by
  intro h;rw [h] at hmb;unfold minusU at hmb;have:s.data.toList.length=s.size:=by simp
  cases hl:s.data.toList with
  | nil=>rw [hl] at hmb;simp at hmb
  | cons a l=>rw [hl] at this;simp at this;omega
 cases b with
 | false=>
  clear hsz;go_enter Tryz.func360,Tryz.ntmps360;go_wp2_with fail;refine HP.mono ?_;rintro e w1 ⟨rfl,rfl⟩;go_wp2_with (simp at *);refine bodyPost_ret (results_tmp2 rfl _ _ _) rfl ⟨rfl,rfl⟩
 | true=>
  have hz:=hsz rfl;clear hsz;go_enter Tryz.func360,Tryz.ntmps360;go_wp2_with fail;refine HP.mono ?_;rintro e w1 ⟨rfl,rfl⟩;go_wp2_with (omega);refine bodyPost_ret (results_tmp2 rfl _ _ _) rfl ⟨?_,rfl⟩;have:s.extract 1 s.size=⟨(s.data.toList.tail).toArray⟩:=by
   apply ByteArray.ext
   apply Array.ext'
   simp [ByteArray.data_extract,Array.toList_extract]
   rw [List.take_of_length_le (by simp)]
  show Ending.returned (Value.tuple #[Value.string (s.extract 1 s.size),Value.bool true])=_
  rw [this]
theorem cutPrefix_calls (s:ByteArray) (w:World) (hs:s.size<4294967281) :
 Calls Tryz.prog 343 #[.string s,.string ⟨#[45]⟩] w fun e w'=>e=.returned (.tuple #[.string ⟨(restU s.data.toList).toArray⟩,.bool (minusU s.data.toList)])∧w'=w:=by
 go_enter Tryz.func343,Tryz.ntmps343;go_wp2_with fail;refine (cutPrefix_lite s w hs).mono ?_;rintro e w1 ⟨rfl,rfl⟩;go_wp2_with fail;refine bodyPost_ret (results_tmp2 rfl _ _ _) rfl ⟨rfl,rfl⟩
theorem results_tmp4 {fn:Func} {t u x y:Tmp} (h:fn.results=#[.tmp t,.tmp u,.tmp x,.tmp y]) (tmps:Array Value) (P:Program) (w:World) :
 (results fn tmps).run P w=.ok (.tuple #[tmps.getD t undef,tmps.getD u undef,tmps.getD x undef,tmps.getD y undef]) w:=by
 simp [results,h]
theorem cut_c (l sep:List UInt8) (hl:l.length<4294967281) (b p:List UInt8) (h:Bool) (hc:Lib.cut l sep=(b,p,h)) (w:World) (hG:GV w) :
 Calls Tryz.prog 174 #[.string ⟨l.toArray⟩,.string ⟨sep.toArray⟩] w fun e w'=>e=.returned (.tuple #[.string ⟨b.toArray⟩,.string ⟨p.toArray⟩,.bool h])∧Below w.heap.size w w':=by
 obtain ⟨m,hm⟩:=hG.ml;refine (Tryz.strings_Cut ⟨l.toArray⟩ ⟨sep.toArray⟩ m w (by simpa [ByteArray.size] using hl) hm).mono ?_;rintro e w' ⟨rfl,n,rfl⟩;refine ⟨?_,pw_below_drewN (Below.refl _ _) n⟩;simp only [List.toList_toArray,hc]
theorem whole_c (l:List UInt8) (hl:l.length<4294967281) (w:World) :
 Calls Tryz.prog 341 #[.string ⟨l.toArray⟩] w fun e w'=>e=.returned (.bool (wholeU l))∧Below w.heap.size w w':=by
 refine (impl_wholeDigits.calls _ ⟨l.toArray⟩ (wholeU l) w (whole_f ⟨l.toArray⟩ (by simp [ByteArray.size];omega))).mono ?_;rintro e w' ⟨rfl,hd⟩;exact ⟨rfl,hd.below⟩
theorem digits_c (l:List UInt8) (hl:l.length<4294967281) (w:World) :
 Calls Tryz.prog 342 #[.string ⟨l.toArray⟩] w fun e w'=>e=.returned (.bool (digitsU l))∧Below w.heap.size w w':=by
 refine (impl_isDigits.calls _ ⟨l.toArray⟩ (digitsU l) w (digits_f ⟨l.toArray⟩ (by simp [ByteArray.size];omega))).mono ?_;rintro e w' ⟨rfl,hd⟩;exact ⟨rfl,hd.below⟩
theorem atoi_c (l:List UInt8) (hl:l.length<4294967281) (w:World) (hG:GV w) :
 Calls Tryz.prog 344 #[.string ⟨l.toArray⟩] w fun e w'=>(∃ v er,e=.returned (.tuple #[.int .i64 v,er])∧((Lib.atoiAll l=.ok v∧er=.nilIface)∨((∀ n,Lib.atoiAll l≠.ok n)∧∃ p,er=.iface 371 (.pointer p))))∧Below w.heap.size w w':=by
 have hz:(⟨l.toArray⟩:ByteArray).size=l.length:=by simp [ByteArray.size]
 rcases h:Lib.atoiAll l with n|_|_
 ·refine (Tryz.strconv_Atoi_ok ⟨l.toArray⟩ (by omega) n (by simpa using h) w).mono ?_;rintro e w' ⟨rfl,hw⟩;refine ⟨⟨n,_,rfl,.inl ⟨rfl,rfl⟩⟩,?_⟩
  rcases hw with rfl|⟨t,rfl⟩
  ·exact Below.refl _ _
  ·exact Lib.bytesWorld_below _ _ _
 ·obtain ⟨ev,h1,h2⟩:=hG.es;refine (Any.strconv_Atoi_syntax Tryz.laysC172 ⟨l.toArray⟩ (by omega) (by simpa using h) ev w h1 h2).mono ?_;rintro e w' ⟨N,rfl,_,_,hb⟩;exact ⟨⟨_,_,rfl,.inr ⟨by intro n;simp,_,rfl⟩⟩,hb⟩
 ·obtain ⟨ev,h1,h2⟩:=hG.er;refine (Tryz.strconv_Atoi_range ⟨l.toArray⟩ (by omega) (by simpa using h) ev w h1 h2).mono ?_;rintro e w' ⟨N,rfl,_,_,hb⟩;exact ⟨⟨_,_,rfl,.inr ⟨by intro n;simp,_,rfl⟩⟩,hb⟩
theorem prefix_c (l:List UInt8) (hl:l.length<4294967281) (w:World) :
 Calls Tryz.prog 343 #[.string ⟨l.toArray⟩,.string ⟨#[45]⟩] w fun e w'=>e=.returned (.tuple #[.string ⟨(restU l).toArray⟩,.bool (minusU l)])∧Below w.heap.size w w':=by
 refine (cutPrefix_calls ⟨l.toArray⟩ w (by simpa [ByteArray.size] using hl)).mono ?_;rintro e w' ⟨rfl,rfl⟩;exact ⟨by simp,Below.refl _ _⟩
def LitR (s:List UInt8):Ending→Prop:=fun e=>∃ a b n,e=.returned (.tuple #[.string a,.string b,.int .i64 n,.bool (litU s)])
set_option maxHeartbeats 4000000 in
set_option maxRecDepth 100000 in
theorem literal_calls (s:ByteArray) (hs:s.size<4294967281) (w:World) (hG:GV w) :
 Calls Tryz.prog 318 #[.string s] w fun e w'=>LitR s.data.toList e∧Below w.heap.size w w':=by
 have HG:=am hG;clear hG;have hsl:s.data.toList.length<4294967281:=by simpa using hs
 rcases hc1:Lib.cut s.data.toList [101] with ⟨body,power,hasP⟩
 rcases hc2:Lib.cut body [46] with ⟨ah,be,pt⟩
 have lb:body.length<4294967281:=by have:=cut_len1 s.data.toList [101];rw [hc1] at this;exact Nat.lt_of_le_of_lt this hsl
 have lp:power.length<4294967281:=by have:=cut_len2 s.data.toList [101];rw [hc1] at this;exact Nat.lt_of_le_of_lt this hsl
 have la:ah.length<4294967281:=by have:=cut_len1 body [46];rw [hc2] at this;exact Nat.lt_of_le_of_lt this lb
 have le:be.length<4294967281:=by have:=cut_len2 body [46];rw [hc2] at this;exact Nat.lt_of_le_of_lt this lb
 have lr:(restU power).length<4294967281:=by unfold restU;split <;> (try simp) <;> omega
 have C1:∀ w,GV w→Calls Tryz.prog 174 #[.string s,.string ⟨#[101]⟩] w fun e w'=>e=.returned (.tuple #[.string ⟨body.toArray⟩,.string ⟨power.toArray⟩,.bool hasP])∧Below w.heap.size w w':=fun w hG=>by
  exact cut_c s.data.toList [101] hsl _ _ _ hc1 w hG
 have C2:∀ w,GV w→Calls Tryz.prog 174 #[.string ⟨body.toArray⟩,.string ⟨#[46]⟩] w fun e w'=>e=.returned (.tuple #[.string ⟨ah.toArray⟩,.string ⟨be.toArray⟩,.bool pt])∧Below w.heap.size w w':=fun w hG=>cut_c body [46] lb _ _ _ hc2 w hG
 have C3:=fun w=>whole_c ah la w
 have C4:=fun w=>digits_c be le w
 have C5:=fun w=>prefix_c power lp w
 have C6:=fun w hG=>atoi_c (restU power) lr w hG
 have C7:=fun w=>whole_c (restU power) lr w
 have hlit:litU s.data.toList=((wholeU ah&&(!pt||digitsU be))&&(!hasP||powU power)):=by
  unfold litU headU;rw [hc1];simp only [hc2]
 unfold powU at hlit
 unfold LitR
 generalize litU s.data.toList=lv at *;clear hc1 hc2;generalize wholeU ah=b1 at *;generalize digitsU be=b2 at *;generalize wholeU (restU power)=b3 at *;generalize minusU power=mi at *;generalize restU power=rp at *;generalize Lib.atoiAll rp=at0 at *;have HC1:=am C1;have HC2:=am C2;have HC3:=am C3;have HC4:=am C4;have HC5:=am C5;have HC6:=am C6;have HC7:=am C7;clear C1 C2 C3 C4 C5 C6 C7;clear hs hsl lb lp la le;have HL:=am hlit;clear hlit
 cases b1 with
 | false=>
  cases pt with
  | false=>
   go_enter Tryz.func318,Tryz.ntmps318;go_wp2_with fail;refine (HC1.out w HG.out).mono ?_;rintro e w1 ⟨rfl,hb⟩;have HB1:=am hb;clear hb;go_wp2_with fail;refine (HC2.out w1 (HG.out.below HB1.out)).mono ?_;rintro e w2 ⟨rfl,hb⟩;have HB2:=am (below_step HB1.out hb);clear hb;go_wp2_with fail;refine (HC3.out w2).mono ?_;rintro e w3 ⟨rfl,hb⟩;have HB3:=am (below_step HB2.out hb);clear hb;go_wp2_with fail;have hv:lv=false:=by rw [HL.out];simp
   refine bodyPost_ret (results_tmp4 rfl _ _ _) rfl ⟨⟨_,_,_,by rw [hv];rfl⟩,HB3.out⟩
  | true=>
   go_enter Tryz.func318,Tryz.ntmps318;go_wp2_with fail;refine (HC1.out w HG.out).mono ?_;rintro e w1 ⟨rfl,hb⟩;have HB1:=am hb;clear hb;go_wp2_with fail;refine (HC2.out w1 (HG.out.below HB1.out)).mono ?_;rintro e w2 ⟨rfl,hb⟩;have HB2:=am (below_step HB1.out hb);clear hb;go_wp2_with fail;refine (HC3.out w2).mono ?_;rintro e w3 ⟨rfl,hb⟩;have HB3:=am (below_step HB2.out hb);clear hb;go_wp2_with fail;have hv:lv=false:=by rw [HL.out];simp
   refine bodyPost_ret (results_tmp4 rfl _ _ _) rfl ⟨⟨_,_,_,by rw [hv];rfl⟩,HB3.out⟩
 | true=>
  cases hasP with
  | false=>
   cases pt with
   | false=>
    go_enter Tryz.func318,Tryz.ntmps318;go_wp2_with fail;refine (HC1.out w HG.out).mono ?_;rintro e w1 ⟨rfl,hb⟩;have HB1:=am hb;clear hb;go_wp2_with fail;refine (HC2.out w1 (HG.out.below HB1.out)).mono ?_;rintro e w2 ⟨rfl,hb⟩;have HB2:=am (below_step HB1.out hb);clear hb;go_wp2_with fail;refine (HC3.out w2).mono ?_;rintro e w3 ⟨rfl,hb⟩;have HB3:=am (below_step HB2.out hb);clear hb;go_wp2_with fail;have hv:lv=true:=by rw [HL.out];simp
    refine bodyPost_ret (results_tmp4 rfl _ _ _) rfl ⟨⟨_,_,_,by rw [hv];rfl⟩,HB3.out⟩
   | true=>
    cases b2 with
    | false=>
     go_enter Tryz.func318,Tryz.ntmps318;go_wp2_with fail;refine (HC1.out w HG.out).mono ?_;rintro e w1 ⟨rfl,hb⟩;have HB1:=am hb;clear hb;go_wp2_with fail;refine (HC2.out w1 (HG.out.below HB1.out)).mono ?_;rintro e w2 ⟨rfl,hb⟩;have HB2:=am (below_step HB1.out hb);clear hb;go_wp2_with fail;refine (HC3.out w2).mono ?_;rintro e w3 ⟨rfl,hb⟩;have HB3:=am (below_step HB2.out hb);clear hb;go_wp2_with fail;refine (HC4.out w3).mono ?_;rintro e w4 ⟨rfl,hb⟩;have HB4:=am (below_step HB3.out hb);clear hb;go_wp2_with fail;have hv:lv=false:=by rw [HL.out];simp
     refine bodyPost_ret (results_tmp4 rfl _ _ _) rfl ⟨⟨_,_,_,by rw [hv];rfl⟩,HB4.out⟩
    | true=>
     go_enter Tryz.func318,Tryz.ntmps318;go_wp2_with fail;refine (HC1.out w HG.out).mono ?_;rintro e w1 ⟨rfl,hb⟩;have HB1:=am hb;clear hb;go_wp2_with fail;refine (HC2.out w1 (HG.out.below HB1.out)).mono ?_;rintro e w2 ⟨rfl,hb⟩;have HB2:=am (below_step HB1.out hb);clear hb;go_wp2_with fail;refine (HC3.out w2).mono ?_;rintro e w3 ⟨rfl,hb⟩;have HB3:=am (below_step HB2.out hb);clear hb;go_wp2_with fail;refine (HC4.out w3).mono ?_;rintro e w4 ⟨rfl,hb⟩;have HB4:=am (below_step HB3.out hb);clear hb;go_wp2_with fail;have hv:lv=true:=by rw [HL.out];simp
     refine bodyPost_ret (results_tmp4 rfl _ _ _) rfl ⟨⟨_,_,_,by rw [hv];rfl⟩,HB4.out⟩
  | true=>
   cases pt with
   | false=>
    go_enter Tryz.func318,Tryz.ntmps318;go_wp2_with fail;refine (HC1.out w HG.out).mono ?_;rintro e w1 ⟨rfl,hb⟩;have HB1:=am hb;clear hb;go_wp2_with fail;refine (HC2.out w1 (HG.out.below HB1.out)).mono ?_;rintro e w2 ⟨rfl,hb⟩;have HB2:=am (below_step HB1.out hb);clear hb;go_wp2_with fail;refine (HC3.out w2).mono ?_;rintro e w3 ⟨rfl,hb⟩;have HB3:=am (below_step HB2.out hb);clear hb;go_wp2_with fail;refine (HC5.out w3).mono ?_;rintro e w4 ⟨rfl,hb⟩;have HB4:=am (below_step HB3.out hb);clear hb;go_wp2_with fail;refine (HC6.out w4 (HG.out.below HB4.out)).mono ?_;rintro e w5 ⟨⟨v,er,rfl,hat⟩,hb⟩;have HB5:=am (below_step HB4.out hb);clear hb;have HA:=am hat;clear hat
    rcases HA.out with ⟨hat,rfl⟩|⟨hno,p,rfl⟩
    ·clear HA;have HA:=am hat;clear hat;go_wp2_with fail;refine (HC7.out w5).mono ?_;rintro e w6 ⟨rfl,hb⟩;have HB6:=am (below_step HB5.out hb);clear hb
     rcases hb3:b3 with _|_
     ·subst hb3;go_wp2_with fail;have hv:lv=false:=by rw [HL.out];simp [HA.out]
      refine bodyPost_ret (results_tmp4 rfl _ _ _) rfl ⟨⟨_,_,_,by rw [hv];rfl⟩,HB6.out⟩
     ·subst hb3
      by_cases h3:3<rp.length
      ·go_wp2_with (omega);have hv:lv=false:=by rw [HL.out];simp [HA.out];omega
       refine bodyPost_ret (results_tmp4 rfl _ _ _) rfl ⟨⟨_,_,_,by rw [hv];rfl⟩,HB6.out⟩
      ·by_cases h4:400<v
       ·go_wp2_with (omega);have hv:lv=false:=by rw [HL.out];simp [HA.out];omega
        refine bodyPost_ret (results_tmp4 rfl _ _ _) rfl ⟨⟨_,_,_,by rw [hv];rfl⟩,HB6.out⟩
       ·rcases hm:mi with _|_
        ·subst hm;go_wp2_with (omega);have hv:lv=true:=by rw [HL.out];simp [HA.out];omega
         refine bodyPost_ret (results_tmp4 rfl _ _ _) rfl ⟨⟨_,_,_,by rw [hv];rfl⟩,HB6.out⟩
        ·subst hm
         by_cases h0:v=0
         ·go_wp2_with (omega);have hv:lv=false:=by rw [HL.out];simp [HA.out];omega
          refine bodyPost_ret (results_tmp4 rfl _ _ _) rfl ⟨⟨_,_,_,by rw [hv];rfl⟩,HB6.out⟩
         ·have h0b:(v == 0)=false:=by simpa using h0
          go_wp2_with (first|omega|(rename_i hx;rw [h0b] at hx;first|omega|(simp at hx;omega)));have hv:lv=true:=by rw [HL.out];simp [HA.out];omega
          refine bodyPost_ret (results_tmp4 rfl _ _ _) rfl ⟨⟨_,_,_,by rw [hv];rfl⟩,HB6.out⟩
    ·have HN:=am hno;clear hno;clear HA;go_wp2_with fail;have hv:lv=false:=by rw [HL.out];cases at0 <;> first|exact absurd rfl (HN.out _)|simp
     refine bodyPost_ret (results_tmp4 rfl _ _ _) rfl ⟨⟨_,_,_,by rw [hv];rfl⟩,HB5.out⟩
   | true=>
    cases b2 with
    | false=>
     go_enter Tryz.func318,Tryz.ntmps318;go_wp2_with fail;refine (HC1.out w HG.out).mono ?_;rintro e w1 ⟨rfl,hb⟩;have HB1:=am hb;clear hb;go_wp2_with fail;refine (HC2.out w1 (HG.out.below HB1.out)).mono ?_;rintro e w2 ⟨rfl,hb⟩;have HB2:=am (below_step HB1.out hb);clear hb;go_wp2_with fail;refine (HC3.out w2).mono ?_;rintro e w3 ⟨rfl,hb⟩;have HB3:=am (below_step HB2.out hb);clear hb;go_wp2_with fail;refine (HC4.out w3).mono ?_;rintro e w4 ⟨rfl,hb⟩;have HB4:=am (below_step HB3.out hb);clear hb;go_wp2_with fail;have hv:lv=false:=by rw [HL.out];simp
     refine bodyPost_ret (results_tmp4 rfl _ _ _) rfl ⟨⟨_,_,_,by rw [hv];rfl⟩,HB4.out⟩
    | true=>
     go_enter Tryz.func318,Tryz.ntmps318;go_wp2_with fail;refine (HC1.out w HG.out).mono ?_;rintro e w1 ⟨rfl,hb⟩;have HB1:=am hb;clear hb;go_wp2_with fail;refine (HC2.out w1 (HG.out.below HB1.out)).mono ?_;rintro e w2 ⟨rfl,hb⟩;have HB2:=am (below_step HB1.out hb);clear hb;go_wp2_with fail;refine (HC3.out w2).mono ?_;rintro e w3 ⟨rfl,hb⟩;have HB3:=am (below_step HB2.out hb);clear hb;go_wp2_with fail;refine (HC4.out w3).mono ?_;rintro e w4 ⟨rfl,hb⟩;have HB4:=am (below_step HB3.out hb);clear hb;go_wp2_with fail;refine (HC5.out w4).mono ?_;rintro e w5 ⟨rfl,hb⟩;have HB5:=am (below_step HB4.out hb);clear hb;go_wp2_with fail;refine (HC6.out w5 (HG.out.below HB5.out)).mono ?_;rintro e w6 ⟨⟨v,er,rfl,hat⟩,hb⟩;have HB6:=am (below_step HB5.out hb);clear hb;have HA:=am hat;clear hat
     rcases HA.out with ⟨hat,rfl⟩|⟨hno,p,rfl⟩
     ·clear HA;have HA:=am hat;clear hat;go_wp2_with fail;refine (HC7.out w6).mono ?_;rintro e w7 ⟨rfl,hb⟩;have HB7:=am (below_step HB6.out hb);clear hb
      rcases hb3:b3 with _|_
      ·subst hb3;go_wp2_with fail;have hv:lv=false:=by rw [HL.out];simp [HA.out]
       refine bodyPost_ret (results_tmp4 rfl _ _ _) rfl ⟨⟨_,_,_,by rw [hv];rfl⟩,HB7.out⟩
      ·subst hb3
       by_cases h3:3<rp.length
       ·go_wp2_with (omega);have hv:lv=false:=by rw [HL.out];simp [HA.out];omega
        refine bodyPost_ret (results_tmp4 rfl _ _ _) rfl ⟨⟨_,_,_,by rw [hv];rfl⟩,HB7.out⟩
       ·by_cases h4:400<v
        ·go_wp2_with (omega);have hv:lv=false:=by rw [HL.out];simp [HA.out];omega
         refine bodyPost_ret (results_tmp4 rfl _ _ _) rfl ⟨⟨_,_,_,by rw [hv];rfl⟩,HB7.out⟩
        ·rcases hm:mi with _|_
         ·subst hm;go_wp2_with (omega);have hv:lv=true:=by rw [HL.out];simp [HA.out];omega
          refine bodyPost_ret (results_tmp4 rfl _ _ _) rfl ⟨⟨_,_,_,by rw [hv];rfl⟩,HB7.out⟩
         ·subst hm
          by_cases h0:v=0
          ·go_wp2_with (omega);have hv:lv=false:=by rw [HL.out];simp [HA.out];omega
           refine bodyPost_ret (results_tmp4 rfl _ _ _) rfl ⟨⟨_,_,_,by rw [hv];rfl⟩,HB7.out⟩
          ·have h0b:(v == 0)=false:=by simpa using h0
           go_wp2_with (first|omega|(rename_i hx;rw [h0b] at hx;first|omega|(simp at hx;omega)));have hv:lv=true:=by rw [HL.out];simp [HA.out];omega
           refine bodyPost_ret (results_tmp4 rfl _ _ _) rfl ⟨⟨_,_,_,by rw [hv];rfl⟩,HB7.out⟩
     ·have HN:=am hno;clear hno;clear HA;go_wp2_with fail;have hv:lv=false:=by rw [HL.out];cases at0 <;> first|exact absurd rfl (HN.out _)|simp
      refine bodyPost_ret (results_tmp4 rfl _ _ _) rfl ⟨⟨_,_,_,by rw [hv];rfl⟩,HB6.out⟩
def numB (s:ByteArray):Bool:=litU s.data.toList&&decide (s.size≤60)
theorem DecOk_calls (s:ByteArray) (hs:s.size<4294967281) (w:World) (hG:GV w) :
 Calls Tryz.prog 272 #[.string s] w fun e w'=>e=.returned (.bool (numB s))∧Below w.heap.size w w':=by
 have C:=literal_calls s hs w hG
 unfold LitR at C
 unfold numB
 generalize litU s.data.toList=b at *;have HC:=am C;clear C hG hs
 cases b with
 | false=>
  go_enter Tryz.func272,Tryz.ntmps272;go_wp2_with fail;refine HC.out.mono ?_;rintro e w1 ⟨⟨x,y,n,rfl⟩,hb⟩;have HB:=am hb;clear hb;go_wp2_with fail;go_ret;exact ⟨rfl,HB.out⟩
 | true=>
  by_cases h:s.size≤60
  ·rw [decide_eq_true h];go_enter Tryz.func272,Tryz.ntmps272;go_wp2_with fail;refine HC.out.mono ?_;rintro e w1 ⟨⟨x,y,n,rfl⟩,hb⟩;have HB:=am hb;clear hb;go_wp2_with fail;go_ret;refine ⟨?_,HB.out⟩
   simp;omega
  ·rw [decide_eq_false h];go_enter Tryz.func272,Tryz.ntmps272;go_wp2_with fail;refine HC.out.mono ?_;rintro e w1 ⟨⟨x,y,n,rfl⟩,hb⟩;have HB:=am hb;clear hb;go_wp2_with fail;go_ret;refine ⟨?_,HB.out⟩
   simp;omega
theorem NumOk_calls (s:ByteArray) (hs:s.size<4294967281) (w:World) (hG:GV w) :
 Calls Tryz.prog 179 #[.string s] w fun e w'=>e=.returned (.bool (numB s))∧Below w.heap.size w w':=by
 have C:=DecOk_calls s hs w hG;have hb60:numB s=true→s.size≤60:=by unfold numB;simp
 generalize numB s=b at *;have HC:=am C;clear C hG hs
 cases b with
 | false=>
  clear hb60;go_enter Tryz.func179,Tryz.ntmps179;go_wp2_with fail;refine HC.out.mono ?_;rintro e w1 ⟨rfl,hb⟩;have HB:=am hb;clear hb;go_wp2_with fail;go_ret;exact ⟨rfl,HB.out⟩
 | true=>
  have h:=hb60 rfl;clear hb60;go_enter Tryz.func179,Tryz.ntmps179;go_wp2_with fail;refine HC.out.mono ?_;rintro e w1 ⟨rfl,hb⟩;have HB:=am hb;clear hb;go_wp2_with fail;go_ret;refine ⟨?_,HB.out⟩
  simp;omega
end Go.Proofs.YtbahacapnaohcaaGreatDoor.PB
