import Derived.Test.YtbahacapnaohcaaGreatDoorA3
set_option linter.unusedVariables false
set_option linter.unusedSimpArgs false
namespace Go.Proofs.YtbahacapnaohcaaGreatDoor.PB
open Go.RowKit Go.Proofs.YtbahacapnaohcaaGreatDoorW.PrintWords Go.Proofs.YtbahacapnaohcaaGreatDoorW.PrintLast Go.Proofs.YtbahacapnaohcaaGreatDoorW.PrintMore
def spec_l13Distinct.l0:Nat→List ByteArray→Int→Option (Bool)
 | 0,_,_=>none
 | k+1,x0,x3=>if x3<(x0.length:Int) then (if 0≤x3 then ((spec_LangNameOk.f k (rdOf ByteArray.empty x0 x3)).bind fun t175=>(if t175=true then (if x3≤(x0.length:Int) then ((spec_l12Find.f k (x0.take (x3:Int).toNat) (rdOf ByteArray.empty x0 x3)).bind fun t178=>(if t178≥0 then (some false) else (spec_l13Distinct.l0 k x0 (wrap64 (x3+1))))) else (none)) else (some false))) else (none)) else (some true)
def spec_l13Distinct.f (k:Nat) (l0:List ByteArray):Option (Bool):=spec_l13Distinct.l0 k l0 0
def spec_l13Distinct.T4:Bool × List (List Nat × List Nat):=(true,[([],[]),([],[]),([0,1],[0,1]),([2],[2]),([3],[3]),([4],[4]),([5,4],[5]),([6],[6]),([6],[6]),([7,8,6],[6,7,8]),([6],[6]),([6],[6]),([10,11,6],[6,10,11]),([12,6],[6,12]),([9,13,6,6],[6,9,13]),([14,6],[6,14]),([6,15],[6,15])])
def spec_l13Distinct.B4:List Nat:=[0,0,3,7,15,31,63,127,127,511,127,127,3199,7295,16383,32767,65535]
theorem spec_l13Distinct.tab4:rtab .any (opsOf Tryz.f285 4)=spec_l13Distinct.T4:=by kernel_rfl
theorem spec_l13Distinct.bits4:waitsOk spec_l13Distinct.T4.2 spec_l13Distinct.B4=true:=by kernel_rfl
set_option maxHeartbeats 8000000 in
set_option maxRecDepth 100000 in
theorem spec_l13Distinct.calls (k:Nat) (A0:Option Addr) (c0:Nat) (l0:List ByteArray) (r:Bool) (w:World) (hr0:Kd.C Kd.string w A0 l0.length l0) (hc0:l0.length≤c0) (h:spec_l13Distinct.f k l0=some r) :
 Calls Tryz.prog 285 #[.slice A0 l0.length c0] w fun e w'=>e=.returned (.bool r)∧Below w.heap.size w w':=by
 obtain ⟨HR0,HC0⟩:=hd2 hr0 hc0;clear hr0 hc0;have HB:=am (Below.refl w.heap.size w);have H:(spec_l13Distinct.l0 k l0 0)=some r:=h;clear h;have H':=am H;clear H;go_enter Tryz.func285,Tryz.ntmps285;go_wp2
 go_loopg [3] k (fun kq v3 w'=>∃ (x3_1:Int),v3=.int .i64 x3_1∧Aside0 (spec_l13Distinct.l0 kq l0 x3_1=some r)∧Aside0 (kq≤k)∧Aside0 (Below w.heap.size w w'))
 case atStart=>exact ⟨(0),xa,H',⟨Nat.le_refl _⟩,⟨bl HB.out⟩⟩
 case round=>
  clear H';obtain ⟨x3_1,rfl,HA,HK1,HB⟩:=hrel
  cases gk with
  | zero=>exact absurd HA.out (by simp [spec_l13Distinct.l0])
  | succ k1=>
   have H:=HA.out;clear HA;simp only [spec_l13Distinct.l0] at H;replace H:=ic H;obtain ⟨c2b0,H⟩|⟨c2b0,H⟩:=H
   ·replace H:=ii H;obtain ⟨c3,H⟩|⟨c3,H⟩:=H
    ·have c3b0:=decide_eq_true c3;clear c3;replace H:=bd H;obtain ⟨t175,A4,H⟩:=H
     by_cases c5:t175=true
     ·subst c5;rw [if_pos rfl] at H;have c6b0:=eq_true (od:0≤x3_1);replace H:=ii H;obtain ⟨c7,H⟩|⟨c7,H⟩:=H
      ·have c7b0:=eq_true c7;have c7b1:=decide_eq_true c7;clear c7;replace H:=bd H;obtain ⟨t178,A8,H⟩:=H;replace H:=ic H;obtain ⟨c9b0,H⟩|⟨c9b0,H⟩:=H
       ·obtain rfl:=si H
        try go_wp2
        replace HB:=am (below_drew1 HB.out);have p174:0≤(x3_1:Int):=od;have q174:x3_1<(l0.length:Int):=od;obtain ⟨ad174,e174,hx174_0⟩:=Kd.at_string HR0.out x3_1 p174 q174;have hw174_0:=hx174_0;cases e174;replace hx174_0:=(pb HB.out hx174_0);replace p174:=eq_true p174;replace q174:=eq_true q174;have p177:0≤(x3_1:Int):=od;have q177:x3_1<(l0.length:Int):=od;obtain ⟨ad177,e177,hx177_0⟩:=Kd.at_string HR0.out x3_1 p177 q177;have hw177_0:=hx177_0;obtain rfl:ad174=ad177:=(by injection e177);replace hx177_0:=(pb HB.out hx177_0);replace p177:=eq_true p177;replace q177:=eq_true q177;refine start_ (n:=17) (S:=fun w'=>w'.cell? (ad174.add (x3_1).toNat)=some (.string (rdOf ByteArray.empty l0 x3_1))∧w'.cell? (ad174.add (x3_1).toNat)=some (.string (rdOf ByteArray.empty l0 x3_1))) (ds:=[]) #[false,false,false,false,false,false,false,false,false,false,false,false,false,false,false,false,false] (by kernel_rfl) rfl rfl ⟨(pb HB.out hw174_0),(pb HB.out hw177_0)⟩ (fun hHeld=>?_);refine with_tabW spec_l13Distinct.tab4 spec_l13Distinct.bits4 (fun HT_ HW_=>?_);generalize wr.drew=w10 at HB hx174_0 hx177_0 hHeld ⊢;refine pv 0 10 HT_.out ?_;refine pv 1 11 HT_.out ?_;refine pv 2 12 HT_.out ?_;refine tv 3 13 HT_.out HW_.out hHeld ?_;refine o1 4 14 HT_.out fun K hK=>?_
        refine gs Tryz.func84 #[.string (rdOf ByteArray.empty l0 x3_1)] ?_;with_reducible refine (spec_LangNameOk.calls k1 (rdOf ByteArray.empty l0 x3_1) true _ A4.out).mono ?_
        rintro e w' ⟨rfl,⟨nd,rfl⟩⟩;refine ⟨_,rfl,?_⟩;obtain ⟨i011,hi011,_,hsz11,_⟩:=info_parts info9;obtain ⟨hcut11,hA11,hC11⟩:=print_take_of (P:=Tryz.prog) Value.string (⟨#[]⟩:ByteArray) 35 9 .i64 Tryz.underlying35 hi011 hsz11 (some ad174) c0 l0 x3_1 od od HC0.out;have HR176:=am (Kd.C_of_reads (h1:=fun _=>rfl) (hA11 _ (Kd.reads_of_C HR0.out)));have HC176:=am hC11;clear hA11 hC11 hi011 hsz11;refine hK.out _ _ ⟨(pb HB.out hw174_0),(pb HB.out hw177_0)⟩ (fun hHeld=>?_);clear hK K;refine nr ?_;refine pv 5 15 HT_.out ?_;refine pv 6 16 HT_.out ?_;refine pv 7 17 HT_.out ?_;refine pv 8 18 HT_.out ?_;refine pv 9 19 HT_.out ?_;refine pv 10 20 HT_.out ?_;refine pv 11 21 HT_.out ?_;refine pv 12 22 HT_.out ?_;refine tv 13 23 HT_.out HW_.out hHeld ?_;refine o1 14 24 HT_.out fun K hK=>?_
        refine goes_ Tryz.func82 (by kernel_rfl) rfl #[.slice (some ad174) (l0.take (x3_1:Int).toNat).length c0,.string (rdOf ByteArray.empty l0 x3_1)] (by rfl) rfl rfl (by (try simp only [List.map_toArray,List.map_cons,List.map_nil]);first|done|(rw [show (l0.take (x3_1:Int).toNat).length=x3_1.toNat from (by rw [List.length_take];have h_:(x3_1:Int)≤(l0.length:Int):=od;omega)] <;> rfl)|rfl|(simp only [List.length_drop,List.length_take];rfl)) ?_;with_reducible refine (spec_l12Find.calls k1 _ _ (l0.take (x3_1:Int).toNat) (rdOf ByteArray.empty l0 x3_1) t178 _ ?_ ?_ A8.out).mono ?_
        exact kc (Kd.C_below HR176.out (bl HB.out));exact HC176.out;rintro e w' ⟨rfl,⟨nd,rfl⟩⟩;refine ⟨_,rfl,?_⟩;refine hK.out _ _ ⟨(pb HB.out hw174_0),(pb HB.out hw177_0)⟩ (fun hHeld=>?_);clear hK K;refine nr ?_;refine pv 15 25 HT_.out ?_;refine pv 16 26 HT_.out ?_;refine done_ (done_of HT_.out (by kernel_rfl)) ?_
        try go_wp2
        go_ret;exact ⟨xe,bl HB.out⟩
       ·have H':=am H;clear H
        try go_wp2
        replace HB:=am (below_drew1 HB.out);have p174:0≤(x3_1:Int):=od;have q174:x3_1<(l0.length:Int):=od;obtain ⟨ad174,e174,hx174_0⟩:=Kd.at_string HR0.out x3_1 p174 q174;have hw174_0:=hx174_0;cases e174;replace hx174_0:=(pb HB.out hx174_0);replace p174:=eq_true p174;replace q174:=eq_true q174;have p177:0≤(x3_1:Int):=od;have q177:x3_1<(l0.length:Int):=od;obtain ⟨ad177,e177,hx177_0⟩:=Kd.at_string HR0.out x3_1 p177 q177;have hw177_0:=hx177_0;obtain rfl:ad174=ad177:=(by injection e177);replace hx177_0:=(pb HB.out hx177_0);replace p177:=eq_true p177;replace q177:=eq_true q177;refine start_ (n:=17) (S:=fun w'=>w'.cell? (ad174.add (x3_1).toNat)=some (.string (rdOf ByteArray.empty l0 x3_1))∧w'.cell? (ad174.add (x3_1).toNat)=some (.string (rdOf ByteArray.empty l0 x3_1))) (ds:=[]) #[false,false,false,false,false,false,false,false,false,false,false,false,false,false,false,false,false] (by kernel_rfl) rfl rfl ⟨(pb HB.out hw174_0),(pb HB.out hw177_0)⟩ (fun hHeld=>?_);refine with_tabW spec_l13Distinct.tab4 spec_l13Distinct.bits4 (fun HT_ HW_=>?_);generalize wr.drew=w12 at HB hx174_0 hx177_0 hHeld ⊢;refine pv 0 10 HT_.out ?_;refine pv 1 11 HT_.out ?_;refine pv 2 12 HT_.out ?_;refine tv 3 13 HT_.out HW_.out hHeld ?_;refine o1 4 14 HT_.out fun K hK=>?_
        refine gs Tryz.func84 #[.string (rdOf ByteArray.empty l0 x3_1)] ?_;with_reducible refine (spec_LangNameOk.calls k1 (rdOf ByteArray.empty l0 x3_1) true _ A4.out).mono ?_
        rintro e w' ⟨rfl,⟨nd,rfl⟩⟩;refine ⟨_,rfl,?_⟩;obtain ⟨i013,hi013,_,hsz13,_⟩:=info_parts info9;obtain ⟨hcut13,hA13,hC13⟩:=print_take_of (P:=Tryz.prog) Value.string (⟨#[]⟩:ByteArray) 35 9 .i64 Tryz.underlying35 hi013 hsz13 (some ad174) c0 l0 x3_1 od od HC0.out;have HR176:=am (Kd.C_of_reads (h1:=fun _=>rfl) (hA13 _ (Kd.reads_of_C HR0.out)));have HC176:=am hC13;clear hA13 hC13 hi013 hsz13;refine hK.out _ _ ⟨(pb HB.out hw174_0),(pb HB.out hw177_0)⟩ (fun hHeld=>?_);clear hK K;refine nr ?_;refine pv 5 15 HT_.out ?_;refine pv 6 16 HT_.out ?_;refine pv 7 17 HT_.out ?_;refine pv 8 18 HT_.out ?_;refine pv 9 19 HT_.out ?_;refine pv 10 20 HT_.out ?_;refine pv 11 21 HT_.out ?_;refine pv 12 22 HT_.out ?_;refine tv 13 23 HT_.out HW_.out hHeld ?_;refine o1 14 24 HT_.out fun K hK=>?_
        refine goes_ Tryz.func82 (by kernel_rfl) rfl #[.slice (some ad174) (l0.take (x3_1:Int).toNat).length c0,.string (rdOf ByteArray.empty l0 x3_1)] (by rfl) rfl rfl (by (try simp only [List.map_toArray,List.map_cons,List.map_nil]);first|done|(rw [show (l0.take (x3_1:Int).toNat).length=x3_1.toNat from (by rw [List.length_take];have h_:(x3_1:Int)≤(l0.length:Int):=od;omega)] <;> rfl)|rfl|(simp only [List.length_drop,List.length_take];rfl)) ?_;with_reducible refine (spec_l12Find.calls k1 _ _ (l0.take (x3_1:Int).toNat) (rdOf ByteArray.empty l0 x3_1) t178 _ ?_ ?_ A8.out).mono ?_
        exact kc (Kd.C_below HR176.out (bl HB.out));exact HC176.out;rintro e w' ⟨rfl,⟨nd,rfl⟩⟩;refine ⟨_,rfl,?_⟩;refine hK.out _ _ ⟨(pb HB.out hw174_0),(pb HB.out hw177_0)⟩ (fun hHeld=>?_);clear hK K;refine nr ?_;refine pv 15 25 HT_.out ?_;refine pv 16 26 HT_.out ?_;refine done_ (done_of HT_.out (by kernel_rfl)) ?_
        try go_wp2
        go_roundg k1
        case measure=>have:=HK1.out;omega
        case rel=>exact ⟨(wrap64 (x3_1+1)),xa,H',⟨by have:=HK1.out;omega⟩,⟨bl HB.out⟩⟩
      ·exact absurd H (by simp)
     ·replace c5:=Bool.eq_false_iff.mpr c5;subst c5;rw [if_neg (show ¬ (false=true) by decide)] at H;obtain rfl:=si H
      try go_wp2
      replace HB:=am (below_drew1 HB.out);have p174:0≤(x3_1:Int):=od;have q174:x3_1<(l0.length:Int):=od;obtain ⟨ad174,e174,hx174_0⟩:=Kd.at_string HR0.out x3_1 p174 q174;have hw174_0:=hx174_0;cases e174;replace hx174_0:=(pb HB.out hx174_0);replace p174:=eq_true p174;replace q174:=eq_true q174;refine start_ (n:=17) (S:=fun w'=>w'.cell? (ad174.add (x3_1).toNat)=some (.string (rdOf ByteArray.empty l0 x3_1))) (ds:=[]) #[false,false,false,false,false,false,false,false,false,false,false,false,false,false,false,false,false] (by kernel_rfl) rfl rfl ((pb HB.out hw174_0)) (fun hHeld=>?_);refine with_tabW spec_l13Distinct.tab4 spec_l13Distinct.bits4 (fun HT_ HW_=>?_);generalize wr.drew=w14 at HB hx174_0 hHeld ⊢;refine pv 0 10 HT_.out ?_;refine pv 1 11 HT_.out ?_;refine pv 2 12 HT_.out ?_;refine tv 3 13 HT_.out HW_.out hHeld ?_;refine o1 4 14 HT_.out fun K hK=>?_
      refine gs Tryz.func84 #[.string (rdOf ByteArray.empty l0 x3_1)] ?_;with_reducible refine (spec_LangNameOk.calls k1 (rdOf ByteArray.empty l0 x3_1) false _ A4.out).mono ?_
      rintro e w' ⟨rfl,⟨nd,rfl⟩⟩;refine ⟨_,rfl,?_⟩;refine hK.out _ _ ((pb HB.out hw174_0)) (fun hHeld=>?_);clear hK K;refine nr ?_;refine pv 5 15 HT_.out ?_;refine pv 6 16 HT_.out ?_;refine pure_ (i:=7) (N:=some 17) (v:=undef) (a':=?_) #[true,true,true,true,true,true,true,true,false,false,false,false,false,false,false,false,false] rfl rfl (any_of HT_.out (by kernel_rfl)) (fun _ _ _ h=>h) (Or.inr ⟨by rfl,rfl⟩) ?_ ?_;rotate_left
      ·simp only [Act.put,List.setIfInBounds_toArray,List.set_cons_zero,List.set_cons_succ,i64_w];rfl
      refine pure_ (i:=8) (N:=some 18) (v:=undef) (a':=?_) #[true,true,true,true,true,true,true,true,true,false,false,false,false,false,false,false,false] rfl rfl (any_of HT_.out (by kernel_rfl)) (fun _ _ _ h=>h) (Or.inr ⟨by rfl,rfl⟩) ?_ ?_;rotate_left
      ·simp only [Act.put,List.setIfInBounds_toArray,List.set_cons_zero,List.set_cons_succ,i64_w];rfl
      refine pure_ (i:=9) (N:=some 19) (v:=undef) (a':=?_) #[true,true,true,true,true,true,true,true,true,true,false,false,false,false,false,false,false] rfl rfl (any_of HT_.out (by kernel_rfl)) (fun _ _ _ h=>h) (Or.inr ⟨by rfl,rfl⟩) ?_ ?_;rotate_left
      ·simp only [Act.put,List.setIfInBounds_toArray,List.set_cons_zero,List.set_cons_succ,i64_w];rfl
      refine pure_ (i:=10) (N:=some 20) (v:=undef) (a':=?_) #[true,true,true,true,true,true,true,true,true,true,true,false,false,false,false,false,false] rfl rfl (any_of HT_.out (by kernel_rfl)) (fun _ _ _ h=>h) (Or.inr ⟨by rfl,rfl⟩) ?_ ?_;rotate_left
      ·simp only [Act.put,List.setIfInBounds_toArray,List.set_cons_zero,List.set_cons_succ,i64_w];rfl
      refine pure_ (i:=11) (N:=some 21) (v:=undef) (a':=?_) #[true,true,true,true,true,true,true,true,true,true,true,true,false,false,false,false,false] rfl rfl (any_of HT_.out (by kernel_rfl)) (fun _ _ _ h=>h) (Or.inr ⟨by rfl,rfl⟩) ?_ ?_;rotate_left
      ·simp only [Act.put,List.setIfInBounds_toArray,List.set_cons_zero,List.set_cons_succ,i64_w];rfl
      refine pure_ (i:=12) (N:=some 22) (v:=undef) (a':=?_) #[true,true,true,true,true,true,true,true,true,true,true,true,true,false,false,false,false] rfl rfl (any_of HT_.out (by kernel_rfl)) (fun _ _ _ h=>h) (Or.inr ⟨by rfl,rfl⟩) ?_ ?_;rotate_left
      ·simp only [Act.put,List.setIfInBounds_toArray,List.set_cons_zero,List.set_cons_succ,i64_w];rfl
      refine pure_ (i:=13) (N:=some 23) (v:=undef) (a':=?_) #[true,true,true,true,true,true,true,true,true,true,true,true,true,true,false,false,false] rfl rfl (any_of HT_.out (by kernel_rfl)) (fun _ _ _ h=>h) (Or.inr ⟨by rfl,rfl⟩) ?_ ?_;rotate_left
      ·simp only [Act.put,List.setIfInBounds_toArray,List.set_cons_zero,List.set_cons_succ,i64_w];rfl
      refine pure_ (i:=14) (N:=some 24) (v:=undef) (a':=?_) #[true,true,true,true,true,true,true,true,true,true,true,true,true,true,true,false,false] rfl rfl (any_of HT_.out (by kernel_rfl)) (fun _ _ _ h=>h) (Or.inr ⟨by rfl,rfl⟩) ?_ ?_;rotate_left
      ·simp only [Act.put,List.setIfInBounds_toArray,List.set_cons_zero,List.set_cons_succ,i64_w];rfl
      refine pure_ (i:=15) (N:=some 25) (v:=undef) (a':=?_) #[true,true,true,true,true,true,true,true,true,true,true,true,true,true,true,true,false] rfl rfl (any_of HT_.out (by kernel_rfl)) (fun _ _ _ h=>h) (Or.inr ⟨by rfl,rfl⟩) ?_ ?_;rotate_left
      ·simp only [Act.put,List.setIfInBounds_toArray,List.set_cons_zero,List.set_cons_succ,i64_w];rfl
      refine pv 16 26 HT_.out ?_;refine done_ (done_of HT_.out (by kernel_rfl)) ?_
      try go_wp2
      go_ret;exact ⟨xe,bl HB.out⟩
    ·exact absurd H (by simp)
   ·obtain rfl:=si H;go_wp2;go_ret;exact ⟨xe,bl HB.out⟩
end Go.Proofs.YtbahacapnaohcaaGreatDoor.PB
