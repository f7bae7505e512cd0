import Derived.Test.YtbahacapnaohcaaGreatDoorA1
set_option linter.unusedVariables false
set_option linter.unusedSimpArgs false
namespace Go.Proofs.YtbahacapnaohcaaGreatDoor.PB
open Go.RowKit Go.Proofs.YtbahacapnaohcaaGreatDoorW.PrintWords Go.Proofs.YtbahacapnaohcaaGreatDoorW.PrintLast Go.Proofs.YtbahacapnaohcaaGreatDoorW.PrintMore
def laws_markText.l0:Nat→Int→ByteArray→Option (ByteArray)
 | 0,_,_=>none
 | k+1,x0,x3=>if x0 > 0 then ((some (([(wrap64 (48+(Int.tmod x0 10))) % 256]:List Int):List Int)).bind fun y404=>(if (strOfNums y404).size+x3.size≤9223372036854775807 then (laws_markText.l0 k (wrap64 (Int.tdiv x0 10)) ((strOfNums y404)++x3)) else (none))) else (if 1+x3.size≤9223372036854775807 then (some ((⟨#[109]⟩:ByteArray)++x3)) else (none))
def laws_markText.f (k:Nat) (a0:Int):Option (ByteArray):=if a0≤0 then (some (⟨#[109,48]⟩:ByteArray)) else (laws_markText.l0 k a0 (⟨#[]⟩:ByteArray))
theorem laws_markText.mono_l:∀ k,(∀ y0 y1,LeO (laws_markText.l0 k y0 y1) (laws_markText.l0 (k+1) y0 y1))
 | 0=>fun _ _ r h=>by simp [laws_markText.l0] at h
 | k+1=>by
  have ih0:=laws_markText.mono_l k
  ·intro y0 y1
   unfold laws_markText.l0
   repeat' first
   | (with_reducible exact ih0 _ _)
   | (with_reducible exact LeO.refl _)
   | (with_reducible exact LeO.none _)
   | (with_reducible refine LeO.ite ?_ ?_)
   | (with_reducible refine LeO.bind ?_ (fun _=>?_))
   | exact ih0 _ _
   | exact LeO.none _
   | refine LeO.ite ?_ ?_
   | refine LeO.bind ?_ (fun _=>?_)
theorem laws_markText.mono:∀ a0 k,LeO (laws_markText.f k a0) (laws_markText.f (k+1) a0):=by
 intro a0 k;have ih0:=laws_markText.mono_l k
 unfold laws_markText.f
 repeat' first
  | (with_reducible exact ih0 _ _)
  | (with_reducible exact LeO.refl _)
  | (with_reducible exact LeO.none _)
  | (with_reducible refine LeO.ite ?_ ?_)
  | (with_reducible refine LeO.bind ?_ (fun _=>?_))
  | exact ih0 _ _
  | exact LeO.none _
  | refine LeO.ite ?_ ?_
  | refine LeO.bind ?_ (fun _=>?_)
set_option maxHeartbeats 8000000 in
set_option maxRecDepth 100000 in
theorem laws_markText.calls (k:Nat) (a0:Int) (r:ByteArray) (w:World) (h:laws_markText.f k a0=some r) :
 Calls Tryz.prog 209 #[.int .i64 a0] w fun e w'=>e=.returned (.string r)∧Below w.heap.size w w':=by
 have HB:=am (Below.refl w.heap.size w);have H:(if a0≤0 then (some (⟨#[109,48]⟩:ByteArray)) else (laws_markText.l0 k a0 (⟨#[]⟩:ByteArray)))=some r:=h;clear h;replace H:=ic H;obtain ⟨c2b0,H⟩|⟨c2b0,H⟩:=H
 ·obtain rfl:=si H;go_enter Tryz.func209,Tryz.ntmps209;go_wp2;go_ret;exact ⟨xe,bl HB.out⟩
 ·have H':=am H;clear H;go_enter Tryz.func209,Tryz.ntmps209;go_wp2
  go_loopg [0,3] k (fun kq v0 v3 w'=>∃ (x0_1:Int) (x3_1:ByteArray),v0=.int .i64 x0_1∧v3=.string x3_1∧Aside0 (laws_markText.l0 kq x0_1 x3_1=some r)∧Aside0 (kq≤k)∧Aside0 (Below w.heap.size w w'))
  case atStart=>exact ⟨(a0),((⟨#[]⟩:ByteArray)),xa,xa,H',⟨Nat.le_refl _⟩,⟨bl HB.out⟩⟩
  case round=>
   clear H';obtain ⟨x0_1,x3_1,rfl,rfl,HA,HK1,HB⟩:=hrel
   cases gk with
   | zero=>exact absurd HA.out (by simp [laws_markText.l0])
   | succ k1=>
    have H:=HA.out;clear HA;simp only [laws_markText.l0] at H;replace H:=ic H;obtain ⟨c3b0,H⟩|⟨c3b0,H⟩:=H
    ·obtain ⟨y404,hy404⟩:∃ y_:List Int,y_=(([(wrap64 (48+(Int.tmod x0_1 10))) % 256]:List Int)):=⟨_,rfl⟩;replace H:(if (strOfNums y404).size+x3_1.size≤9223372036854775807 then (laws_markText.l0 k1 (wrap64 (Int.tdiv x0_1 10)) ((strOfNums y404)++x3_1)) else (none))=some r:=by first|(rw [hy404];with_reducible exact H)|(have H2_:=(Option.bind_some _ _).symm.trans H;rw [hy404];with_reducible exact H2_)|(have H2_:=(Option.bind_some _ _).symm.trans H;with_reducible exact H2_)|with_reducible exact H|(rw [hy404];exact H)|exact H
     have Ny404:=am hy404;clear hy404;replace H:=ii H;obtain ⟨c4,H⟩|⟨c4,H⟩:=H
     ·have c4b0:=eq_true c4;have c4b1:=decide_eq_true c4
      try have c4b2:(9223372036854775807<(strOfNums y404).size+x3_1.size)=False:=eq_false (Nat.not_lt.2 c4)
      have H':=am H;clear H;go_wp2_with (first|((with_reducible refine gate_dst (N:=12) rfl ?_);refine Kd.R_lit (Kd.int .u8) _ 5 ?hg (N:=12) ?hd (xs:=([(wrap64 (48+(Int.tmod x0_1 10))) % 256]:List Int)) (inner:=[.int .u8 ((wrap64 (48+(Int.tmod x0_1 10))) % 256)]) (ok:=fun _=>True) (okp:=fun _=>True) ?hr ?hp (fun _ hk=>hk) trivial (Below.refl _ _) (Nat.le_refl _) (by simp) ?_;(case hd=>rfl);(case hg=>rfl);(case hr=>first|(go_simp;done)|(go_simp;rfl));(case hp=>exact (Reps.one (show Kd.M (Kd.int .u8) _ _ _ ((wrap64 (48+(Int.tmod x0_1 10))) % 256) [.int .u8 ((wrap64 (48+(Int.tmod x0_1 10))) % 256)] from rfl) (Reps.none _ _)));intro v405 w5 ho6 hb hg_ hnew_;clear hg_ hnew_;(first|rw [← Ny404.out] at ho6|(simp only [Int.reduceToNat] at ho6;rw [← Ny404.out] at ho6));have HO406:=am (Kd.R_lower ho6 (below_size (bl HB.out)));replace HB:=am (below_step (bl HB.out) hb);clear hb ho6;have hcv7:=own_string (P:=Tryz.prog) Tryz.underlying22 Tryz.underlying5 Tryz.underlying9 (Kd.own_of_R HO406.out)))
      go_roundg k1
      case measure=>have:=HK1.out;omega
      case rel=>exact ⟨(wrap64 (Int.tdiv x0_1 10)),((strOfNums y404)++x3_1),xa,xa,H',⟨by have:=HK1.out;omega⟩,⟨bl HB.out⟩⟩
     ·exact absurd H (by simp)
    ·replace H:=ii H;obtain ⟨c8,H⟩|⟨c8,H⟩:=H
     ·have c8b0:=eq_true c8;have c8b1:=decide_eq_true c8
      try have c8b2:(9223372036854775807<1+x3_1.size)=False:=eq_false (Nat.not_lt.2 c8)
      obtain rfl:=si H;go_wp2;go_ret;exact ⟨xe,bl HB.out⟩
     ·exact absurd H (by simp)
def laws_heldStringS.l0:Nat→List ByteArray→Int→Int→Option (Int)
 | 0,_,_,_=>none
 | k+1,x0,x1,x5=>if x5<(x0.length:Int) then (if 0≤x5 then ((laws_markText.f k x1).bind fun t408=>(if (rdOf ByteArray.empty x0 x5).toList=t408.toList then (laws_heldStringS.l0 k x0 (wrap64 (x1+1)) (wrap64 (x5+1))) else (some (-1)))) else (none)) else (some x1)
def laws_heldStringS.f (k:Nat) (l0:List ByteArray) (a1:Int):Option (Int):=laws_heldStringS.l0 k l0 a1 0
set_option maxHeartbeats 8000000 in
set_option maxRecDepth 100000 in
theorem laws_heldStringS.calls (k:Nat) (A0:Option Addr) (c0:Nat) (l0:List ByteArray) (a1:Int) (r:Int) (w:World) (hr0:Kd.C Kd.string w A0 l0.length l0) (hc0:l0.length≤c0) (h:laws_heldStringS.f k l0 a1=some r) :
 Calls Tryz.prog 110 #[.slice A0 l0.length c0,.int .i64 a1] w fun e w'=>e=.returned (.int .i64 r)∧Below w.heap.size w w':=by
 obtain ⟨HR0,HC0⟩:=hd2 hr0 hc0;clear hr0 hc0;have HB:=am (Below.refl w.heap.size w);have H:(laws_heldStringS.l0 k l0 a1 0)=some r:=h;clear h;have H':=am H;clear H;go_enter Tryz.func110,Tryz.ntmps110;go_wp2
 go_loopg [1,5] k (fun kq v1 v5 w'=>∃ (x1_1:Int) (x5_1:Int),v1=.int .i64 x1_1∧v5=.int .i64 x5_1∧Aside0 (laws_heldStringS.l0 kq l0 x1_1 x5_1=some r)∧Aside0 (kq≤k)∧Aside0 (Below w.heap.size w w'))
 case atStart=>exact ⟨(a1),(0),xa,xa,H',⟨Nat.le_refl _⟩,⟨bl HB.out⟩⟩
 case round=>
  clear H';obtain ⟨x1_1,x5_1,rfl,rfl,HA,HK1,HB⟩:=hrel
  cases gk with
  | zero=>exact absurd HA.out (by simp [laws_heldStringS.l0])
  | succ k1=>
   have H:=HA.out;clear HA;simp only [laws_heldStringS.l0] at H;replace H:=ic H;obtain ⟨c3b0,H⟩|⟨c3b0,H⟩:=H
   ·replace H:=ii H;obtain ⟨c4,H⟩|⟨c4,H⟩:=H
    ·have c4b0:=decide_eq_true c4;clear c4;replace H:=bd H;obtain ⟨t408,A5,H⟩:=H;replace H:=ii H;obtain ⟨c6,H⟩|⟨c6,H⟩:=H
     ·have c6b0:((rdOf ByteArray.empty l0 x5_1).toList == t408.toList)=true:=beq_iff_eq.mpr c6;have c6b1:((rdOf ByteArray.empty l0 x5_1).toList != t408.toList)=false:=bne_eq_false_iff_eq.mpr c6;clear c6;have H':=am H;clear H
      try go_wp2
      replace HB:=am (below_drew1 HB.out);have p407:0≤(x5_1:Int):=od;have q407:x5_1<(l0.length:Int):=od;obtain ⟨ad407,e407,hx407_0⟩:=Kd.at_string HR0.out x5_1 p407 q407;have hw407_0:=hx407_0;cases e407;replace hx407_0:=(pb HB.out hx407_0);replace p407:=eq_true p407;replace q407:=eq_true q407;refine start_ (n:=7) (S:=fun w'=>w'.cell? (ad407.add (x5_1).toNat)=some (.string (rdOf ByteArray.empty l0 x5_1))) (ds:=[]) #[false,false,false,false,false,false,false] (by kernel_rfl) rfl rfl ((pb HB.out hw407_0)) (fun hHeld=>?_);generalize wr.drew=w7 at HB hx407_0 hHeld ⊢;refine pu 0 12 ?_;refine pu 1 13 ?_;refine pu 2 14 ?_;refine pu 4 16 ?_;refine tk 3 15 hHeld ?_;refine one_ (i:=5) (N:=some 17) #[true,true,true,true,true,true,false] rfl rfl (by kernel_rfl) (by decide) (fun K hK=>?_);refine gs Tryz.func209 #[.int .i64 x1_1] ?_;with_reducible refine (laws_markText.calls k1 x1_1 t408 _ A5.out).mono ?_
      rintro e w8 ⟨rfl,hb⟩;refine ⟨_,rfl,?_⟩;replace HB:=am (below_step (bl HB.out) hb);refine hK.out _ _ ((pb HB.out hw407_0)) (fun hHeld=>?_);clear hK K;refine nr ?_;refine pu 6 18 ?_;refine done_ (by kernel_rfl) ?_
      try go_wp2
      go_roundg k1
      case measure=>have:=HK1.out;omega
      case rel=>exact ⟨(wrap64 (x1_1+1)),(wrap64 (x5_1+1)),xa,xa,H',⟨by have:=HK1.out;omega⟩,⟨bl HB.out⟩⟩
     ·have c6b0:((rdOf ByteArray.empty l0 x5_1).toList == t408.toList)=false:=beq_eq_false_iff_ne.mpr c6;have c6b1:((rdOf ByteArray.empty l0 x5_1).toList != t408.toList)=true:=bne_iff_ne.mpr c6;obtain rfl:=si H
      try go_wp2
      replace HB:=am (below_drew1 HB.out);have p407:0≤(x5_1:Int):=od;have q407:x5_1<(l0.length:Int):=od;obtain ⟨ad407,e407,hx407_0⟩:=Kd.at_string HR0.out x5_1 p407 q407;have hw407_0:=hx407_0;cases e407;replace hx407_0:=(pb HB.out hx407_0);replace p407:=eq_true p407;replace q407:=eq_true q407;refine start_ (n:=7) (S:=fun w'=>w'.cell? (ad407.add (x5_1).toNat)=some (.string (rdOf ByteArray.empty l0 x5_1))) (ds:=[]) #[false,false,false,false,false,false,false] (by kernel_rfl) rfl rfl ((pb HB.out hw407_0)) (fun hHeld=>?_);generalize wr.drew=w9 at HB hx407_0 hHeld ⊢;refine pu 0 12 ?_;refine pu 1 13 ?_;refine pu 2 14 ?_;refine pu 4 16 ?_;refine tk 3 15 hHeld ?_;refine one_ (i:=5) (N:=some 17) #[true,true,true,true,true,true,false] rfl rfl (by kernel_rfl) (by decide) (fun K hK=>?_);refine gs Tryz.func209 #[.int .i64 x1_1] ?_;with_reducible refine (laws_markText.calls k1 x1_1 t408 _ A5.out).mono ?_
      rintro e w10 ⟨rfl,hb⟩;refine ⟨_,rfl,?_⟩;replace HB:=am (below_step (bl HB.out) hb);refine hK.out _ _ ((pb HB.out hw407_0)) (fun hHeld=>?_);clear hK K;refine nr ?_;refine pu 6 18 ?_;refine done_ (by kernel_rfl) ?_
      try go_wp2
      go_ret;exact ⟨xe,bl HB.out⟩
    ·exact absurd H (by simp)
   ·obtain rfl:=si H;go_wp2;go_ret;exact ⟨xe,bl HB.out⟩
def laws_heldTermNodeS.l0:Nat→List (S102)→Int→Int→Option (Int)
 | 0,_,_,_=>none
 | k+1,x0,x1,x5=>if x5<(x0.length:Int) then (if 0≤x5 then (if ((rd_T102 x0 x5).f0)=x1 then (if ((rd_T102 x0 x5).f1)=(wrap64 (x1+1)) then ((laws_markText.f k (wrap64 ((wrap64 (x1+1))+1))).bind fun t412=>(if ((rd_T102 x0 x5).f2).toList=t412.toList then (laws_heldTermNodeS.l0 k x0 (wrap64 ((wrap64 ((wrap64 (x1+1))+1))+1)) (wrap64 (x5+1))) else (some (-1)))) else (some (-1))) else (some (-1))) else (none)) else (some x1)
def laws_heldTermNodeS.f (k:Nat) (l0:List (S102)) (a1:Int):Option (Int):=laws_heldTermNodeS.l0 k l0 a1 0
def laws_heldTermNodeS.T10:Bool × List (List Nat × List Nat):=(true,[([],[]),([],[]),([0,1],[0,1]),([2],[2]),([3],[3]),([],[]),([5],[5]),([4,6],[4,6])])
def laws_heldTermNodeS.B10:List Nat:=[0,0,3,7,15,0,32,127]
theorem laws_heldTermNodeS.tab10:rtab .any (opsOf Tryz.f211 10)=laws_heldTermNodeS.T10:=by kernel_rfl
theorem laws_heldTermNodeS.bits10:waitsOk laws_heldTermNodeS.T10.2 laws_heldTermNodeS.B10=true:=by kernel_rfl
set_option maxHeartbeats 8000000 in
set_option maxRecDepth 100000 in
theorem laws_heldTermNodeS.calls (k:Nat) (A0:Option Addr) (c0:Nat) (l0:List (S102)) (a1:Int) (r:Int) (w:World) (hr0:Kd.C k102 w A0 l0.length l0) (hc0:l0.length≤c0) (h:laws_heldTermNodeS.f k l0 a1=some r) :
 Calls Tryz.prog 211 #[.slice A0 l0.length c0,.int .i64 a1] w fun e w'=>e=.returned (.int .i64 r)∧Below w.heap.size w w':=by
 obtain ⟨HR0,HC0⟩:=hd2 hr0 hc0;clear hr0 hc0;have HB:=am (Below.refl w.heap.size w);have H:(laws_heldTermNodeS.l0 k l0 a1 0)=some r:=h;clear h;have H':=am H;clear H;go_enter Tryz.func211,Tryz.ntmps211;go_wp2
 go_loopg [1,5] k (fun kq v1 v5 w'=>∃ (x1_1:Int) (x5_1:Int),v1=.int .i64 x1_1∧v5=.int .i64 x5_1∧Aside0 (laws_heldTermNodeS.l0 kq l0 x1_1 x5_1=some r)∧Aside0 (kq≤k)∧Aside0 (Below w.heap.size w w'))
 case atStart=>exact ⟨(a1),(0),xa,xa,H',⟨Nat.le_refl _⟩,⟨bl HB.out⟩⟩
 case round=>
  clear H';obtain ⟨x1_1,x5_1,rfl,rfl,HA,HK1,HB⟩:=hrel
  cases gk with
  | zero=>exact absurd HA.out (by simp [laws_heldTermNodeS.l0])
  | succ k1=>
   have H:=HA.out;clear HA;simp only [laws_heldTermNodeS.l0] at H;replace H:=ic H;obtain ⟨c3b0,H⟩|⟨c3b0,H⟩:=H
   ·replace H:=ii H;obtain ⟨c4,H⟩|⟨c4,H⟩:=H
    ·have c4b0:=decide_eq_true c4;clear c4;replace H:=ii H;obtain ⟨c5,H⟩|⟨c5,H⟩:=H
     ·have c5b0:(((rd_T102 l0 x5_1).f0) == x1_1)=true:=beq_iff_eq.mpr c5;have c5b1:(((rd_T102 l0 x5_1).f0) != x1_1)=false:=bne_eq_false_iff_eq.mpr c5;clear c5;replace H:=ii H;obtain ⟨c6,H⟩|⟨c6,H⟩:=H
      ·have c6b0:(((rd_T102 l0 x5_1).f1) == (wrap64 (x1_1+1)))=true:=beq_iff_eq.mpr c6;have c6b1:(((rd_T102 l0 x5_1).f1) != (wrap64 (x1_1+1)))=false:=bne_eq_false_iff_eq.mpr c6;clear c6;replace H:=bd H;obtain ⟨t412,A7,H⟩:=H;replace H:=ii H;obtain ⟨c8,H⟩|⟨c8,H⟩:=H
       ·have c8b0:(((rd_T102 l0 x5_1).f2).toList == t412.toList)=true:=beq_iff_eq.mpr c8;have c8b1:(((rd_T102 l0 x5_1).f2).toList != t412.toList)=false:=bne_eq_false_iff_eq.mpr c8;clear c8;have H':=am H;clear H;obtain ⟨p409,q409,ad409,e409,hw409_0,hw409_1,hw409_2⟩:=aT102 HR0.out x5_1;cases e409;have hx409_0:=pb HB.out hw409_0;have hx409_1:=pb HB.out hw409_1;have hx409_2:=pb HB.out hw409_2;obtain ⟨p410,q410,ad410,e410,hw410_0,hw410_1,hw410_2⟩:=aT102 HR0.out x5_1;obtain rfl:ad409=ad410:=(by injection e410);have hx410_0:=pb HB.out hw410_0;have hx410_1:=pb HB.out hw410_1;have hx410_2:=pb HB.out hw410_2
        try go_wp2
        replace HB:=am (below_drew1 HB.out);obtain ⟨p411,q411,ad411,e411,hw411_0,hw411_1,hw411_2⟩:=aT102 HR0.out x5_1;obtain rfl:ad409=ad411:=(by injection e411);have hx411_0:=pb HB.out hw411_0;have hx411_1:=pb HB.out hw411_1;have hx411_2:=pb HB.out hw411_2;refine start_ (n:=8) (S:=fun w'=>w'.cell? (ad409.add ((x5_1).toNat * 3))=some (.int .i64 ((rd_T102 l0 x5_1).f0))∧w'.cell? ⟨(ad409.add ((x5_1).toNat * 3)).block,(ad409.add ((x5_1).toNat * 3)).off+1,none⟩=some (.int .i64 ((rd_T102 l0 x5_1).f1))∧w'.cell? ⟨(ad409.add ((x5_1).toNat * 3)).block,(ad409.add ((x5_1).toNat * 3)).off+2,none⟩=some (.string ((rd_T102 l0 x5_1).f2))) (ds:=[]) #[false,false,false,false,false,false,false,false] (by kernel_rfl) rfl rfl ⟨(pb HB.out hw411_0),(pb HB.out hw411_1),(pb HB.out hw411_2)⟩ (fun hHeld=>?_);refine with_tabW laws_heldTermNodeS.tab10 laws_heldTermNodeS.bits10 (fun HT_ HW_=>?_);generalize wr.drew=w9 at HB hx411_0 hx411_1 hx411_2 hHeld ⊢;refine pv 0 30 HT_.out ?_;refine pv 1 31 HT_.out ?_;refine pv 2 32 HT_.out ?_;refine pv 3 33 HT_.out ?_;refine pv 5 35 HT_.out ?_;refine tv 4 34 HT_.out HW_.out hHeld ?_;refine o1 6 36 HT_.out fun K hK=>?_
        refine gs Tryz.func209 #[.int .i64 (wrap64 ((wrap64 (x1_1+1))+1))] ?_;with_reducible refine (laws_markText.calls k1 (wrap64 ((wrap64 (x1_1+1))+1)) t412 _ A7.out).mono ?_
        rintro e w10 ⟨rfl,hb⟩;refine ⟨_,rfl,?_⟩;replace HB:=am (below_step (bl HB.out) hb);refine hK.out _ _ ⟨(pb HB.out hw411_0),(pb HB.out hw411_1),(pb HB.out hw411_2)⟩ (fun hHeld=>?_);clear hK K;refine nr ?_;refine pv 7 37 HT_.out ?_;refine done_ (done_of HT_.out (by kernel_rfl)) ?_
        try go_wp2
        go_roundg k1
        case measure=>have:=HK1.out;omega
        case rel=>exact ⟨(wrap64 ((wrap64 ((wrap64 (x1_1+1))+1))+1)),(wrap64 (x5_1+1)),xa,xa,H',⟨by have:=HK1.out;omega⟩,⟨bl HB.out⟩⟩
       ·have c8b0:(((rd_T102 l0 x5_1).f2).toList == t412.toList)=false:=beq_eq_false_iff_ne.mpr c8;have c8b1:(((rd_T102 l0 x5_1).f2).toList != t412.toList)=true:=bne_iff_ne.mpr c8;obtain rfl:=si H;obtain ⟨p409,q409,ad409,e409,hw409_0,hw409_1,hw409_2⟩:=aT102 HR0.out x5_1;cases e409;have hx409_0:=pb HB.out hw409_0;have hx409_1:=pb HB.out hw409_1;have hx409_2:=pb HB.out hw409_2;obtain ⟨p410,q410,ad410,e410,hw410_0,hw410_1,hw410_2⟩:=aT102 HR0.out x5_1;obtain rfl:ad409=ad410:=(by injection e410);have hx410_0:=pb HB.out hw410_0;have hx410_1:=pb HB.out hw410_1;have hx410_2:=pb HB.out hw410_2
        try go_wp2
        replace HB:=am (below_drew1 HB.out);obtain ⟨p411,q411,ad411,e411,hw411_0,hw411_1,hw411_2⟩:=aT102 HR0.out x5_1;obtain rfl:ad409=ad411:=(by injection e411);have hx411_0:=pb HB.out hw411_0;have hx411_1:=pb HB.out hw411_1;have hx411_2:=pb HB.out hw411_2;refine start_ (n:=8) (S:=fun w'=>w'.cell? (ad409.add ((x5_1).toNat * 3))=some (.int .i64 ((rd_T102 l0 x5_1).f0))∧w'.cell? ⟨(ad409.add ((x5_1).toNat * 3)).block,(ad409.add ((x5_1).toNat * 3)).off+1,none⟩=some (.int .i64 ((rd_T102 l0 x5_1).f1))∧w'.cell? ⟨(ad409.add ((x5_1).toNat * 3)).block,(ad409.add ((x5_1).toNat * 3)).off+2,none⟩=some (.string ((rd_T102 l0 x5_1).f2))) (ds:=[]) #[false,false,false,false,false,false,false,false] (by kernel_rfl) rfl rfl ⟨(pb HB.out hw411_0),(pb HB.out hw411_1),(pb HB.out hw411_2)⟩ (fun hHeld=>?_);refine with_tabW laws_heldTermNodeS.tab10 laws_heldTermNodeS.bits10 (fun HT_ HW_=>?_);generalize wr.drew=w11 at HB hx411_0 hx411_1 hx411_2 hHeld ⊢;refine pv 0 30 HT_.out ?_;refine pv 1 31 HT_.out ?_;refine pv 2 32 HT_.out ?_;refine pv 3 33 HT_.out ?_;refine pv 5 35 HT_.out ?_;refine tv 4 34 HT_.out HW_.out hHeld ?_;refine o1 6 36 HT_.out fun K hK=>?_
        refine gs Tryz.func209 #[.int .i64 (wrap64 ((wrap64 (x1_1+1))+1))] ?_;with_reducible refine (laws_markText.calls k1 (wrap64 ((wrap64 (x1_1+1))+1)) t412 _ A7.out).mono ?_
        rintro e w12 ⟨rfl,hb⟩;refine ⟨_,rfl,?_⟩;replace HB:=am (below_step (bl HB.out) hb);refine hK.out _ _ ⟨(pb HB.out hw411_0),(pb HB.out hw411_1),(pb HB.out hw411_2)⟩ (fun hHeld=>?_);clear hK K;refine nr ?_;refine pv 7 37 HT_.out ?_;refine done_ (done_of HT_.out (by kernel_rfl)) ?_
        try go_wp2
        go_ret;exact ⟨xe,bl HB.out⟩
      ·have c6b0:(((rd_T102 l0 x5_1).f1) == (wrap64 (x1_1+1)))=false:=beq_eq_false_iff_ne.mpr c6;have c6b1:(((rd_T102 l0 x5_1).f1) != (wrap64 (x1_1+1)))=true:=bne_iff_ne.mpr c6;obtain rfl:=si H;obtain ⟨p409,q409,ad409,e409,hw409_0,hw409_1,hw409_2⟩:=aT102 HR0.out x5_1;cases e409;have hx409_0:=pb HB.out hw409_0;have hx409_1:=pb HB.out hw409_1;have hx409_2:=pb HB.out hw409_2;obtain ⟨p410,q410,ad410,e410,hw410_0,hw410_1,hw410_2⟩:=aT102 HR0.out x5_1;obtain rfl:ad409=ad410:=(by injection e410);have hx410_0:=pb HB.out hw410_0;have hx410_1:=pb HB.out hw410_1;have hx410_2:=pb HB.out hw410_2;go_wp2;go_ret;exact ⟨xe,bl HB.out⟩
     ·have c5b0:(((rd_T102 l0 x5_1).f0) == x1_1)=false:=beq_eq_false_iff_ne.mpr c5;have c5b1:(((rd_T102 l0 x5_1).f0) != x1_1)=true:=bne_iff_ne.mpr c5;obtain rfl:=si H;obtain ⟨p409,q409,ad409,e409,hw409_0,hw409_1,hw409_2⟩:=aT102 HR0.out x5_1;cases e409;have hx409_0:=pb HB.out hw409_0;have hx409_1:=pb HB.out hw409_1;have hx409_2:=pb HB.out hw409_2;go_wp2;go_ret;exact ⟨xe,bl HB.out⟩
    ·exact absurd H (by simp)
   ·obtain rfl:=si H;go_wp2;go_ret;exact ⟨xe,bl HB.out⟩
end Go.Proofs.YtbahacapnaohcaaGreatDoor.PB
