import Derived.Test.YtbahacapnaohcaaGreatDoorA2
import Derived.Test.YtbahacapnaohcaaGreatDoorPBx7
import Derived.Test.YtbahacapnaohcaaGreatDoorPBx20
set_option linter.unusedVariables false
set_option linter.unusedSimpArgs false
namespace Go.Proofs.YtbahacapnaohcaaGreatDoor.PB
open Go.RowKit Go.Proofs.YtbahacapnaohcaaGreatDoorW.PrintWords Go.Proofs.YtbahacapnaohcaaGreatDoorW.PrintLast Go.Proofs.YtbahacapnaohcaaGreatDoorW.PrintMore
mutual
def spec_ProgCode.j1:Nat→Int→List (S65)→List ByteArray→List (S63)→Option (Int)
 | 0,_,_,_,_=>none
 | k+1,x3,x194000,x194001,x194002=>spec_ProgCode.l1 k x3 0 x194000 x194001 x194002
def spec_ProgCode.j3:Nat→Int→List (S65)→List ByteArray→List (S63)→Option (Int)
 | 0,_,_,_,_=>none
 | k+1,x3,x194000,x194001,x194002=>if x3=0 then ((spec_l13Table.f k x194000 x194001 x194002).bind fun t199=>(spec_ProgCode.l2 k t199 0 x194000 x194001 x194002)) else (some x3)
def spec_ProgCode.l2:Nat→List (List Bool)→Int→List (S65)→List ByteArray→List (S63)→Option (Int)
 | 0,_,_,_,_,_=>none
 | k+1,x6,x7,x194000,x194001,x194002=>if x7<(x6.length:Int) then (if 0≤x7 then (if x7<((rd_L9 x6 x7).length:Int) then (if rdOf false (rd_L9 x6 x7) x7=true then (some 10) else (spec_ProgCode.l2 k x6 (wrap64 (x7+1)) x194000 x194001 x194002)) else (none)) else (none)) else (if (x194001.length:Int)=0 then (some 11) else (if (x194002.length:Int)=0 then (some 11) else (some 0)))
def spec_ProgCode.l1:Nat→Int→Int→List (S65)→List ByteArray→List (S63)→Option (Int)
 | 0,_,_,_,_,_=>none
 | k+1,x3,x5,x194000,x194001,x194002=>if x5<(x194002.length:Int) then (if x3=0 then (if 0≤x5 then ((spec_l13RelCode.f k x194000 x194001 x194002 ((rd_T63 x194002 x5).f0) ((rd_T63 x194002 x5).f1.f0) ((rd_T63 x194002 x5).f2.f0)).bind fun t198=>(spec_ProgCode.l1 k t198 (wrap64 (x5+1)) x194000 x194001 x194002)) else (none)) else (spec_ProgCode.j3 k x3 x194000 x194001 x194002)) else (spec_ProgCode.j3 k x3 x194000 x194001 x194002)
def spec_ProgCode.l0:Nat→Int→Int→List (S65)→List ByteArray→List (S63)→Option (Int)
 | 0,_,_,_,_,_=>none
 | k+1,x3,x4,x194000,x194001,x194002=>if x4<(x194000.length:Int) then (if x3=0 then (if 0≤x4 then ((spec_l13DefCode.f k x194000 x194001 x194002 ((rd_T65 x194000 x4).f0) ((rd_T65 x194000 x4).f1) ((rd_T65 x194000 x4).f2.f0)).bind fun t196=>(spec_ProgCode.l0 k t196 (wrap64 (x4+1)) x194000 x194001 x194002)) else (none)) else (spec_ProgCode.j1 k x3 x194000 x194001 x194002)) else (spec_ProgCode.j1 k x3 x194000 x194001 x194002)
end
def spec_ProgCode.f (k:Nat) (l0_0:List (S65)) (l0_1:List ByteArray) (l0_2:List (S63)):Option (Int):=(spec_l13Shape.f k l0_0 l0_1 l0_2).bind fun t194=>(spec_ProgCode.l0 k t194 0 l0_0 l0_1 l0_2)
def spec_ProgCode.T5:Bool × List (List Nat × List Nat):=(true,[([],[]),([],[]),([1],[1]),([],[]),([2,3],[2,3]),([4],[4]),([0,5],[0,5]),([6,6,0,1,2,3,4,5,6],[6])])
def spec_ProgCode.B5:List Nat:=[0,0,2,0,14,30,63,127]
theorem spec_ProgCode.tab5:rtab .any (opsOf Tryz.f83 5)=spec_ProgCode.T5:=by kernel_rfl
theorem spec_ProgCode.bits5:waitsOk spec_ProgCode.T5.2 spec_ProgCode.B5=true:=by kernel_rfl
def spec_ProgCode.T9:Bool × List (List Nat × List Nat):=(true,[([],[]),([],[]),([1],[1]),([],[]),([2,3],[2,3]),([4],[4]),([0,5],[0,5]),([6,6,0,1,2,3,4,5,6],[6])])
def spec_ProgCode.B9:List Nat:=[0,0,2,0,14,30,63,127]
theorem spec_ProgCode.tab9:rtab .any (opsOf Tryz.f83 9)=spec_ProgCode.T9:=by kernel_rfl
theorem spec_ProgCode.bits9:waitsOk spec_ProgCode.T9.2 spec_ProgCode.B9=true:=by kernel_rfl
set_option maxHeartbeats 8000000 in
set_option maxRecDepth 100000 in
theorem spec_ProgCode.calls (k:Nat) (A0_0:Option Addr) (c0_0:Nat) (l0_0:List (S65)) (A0_1:Option Addr) (c0_1:Nat) (l0_1:List ByteArray) (A0_2:Option Addr) (c0_2:Nat) (l0_2:List (S63)) (r:Int) (w:World) (hr0_0:Kd.C k65 w A0_0 l0_0.length l0_0) (hc0_0:l0_0.length≤c0_0) (hr0_1:Kd.C Kd.string w A0_1 l0_1.length l0_1) (hc0_1:l0_1.length≤c0_1) (hr0_2:Kd.C k63 w A0_2 l0_2.length l0_2) (hc0_2:l0_2.length≤c0_2) (h:spec_ProgCode.f k l0_0 l0_1 l0_2=some r) :
 Calls Tryz.prog 83 #[.agg #[.slice A0_0 l0_0.length c0_0,.slice A0_1 l0_1.length c0_1,.slice A0_2 l0_2.length c0_2]] w fun e w'=>e=.returned (.int .i64 r)∧Below w.heap.size w w':=by
 have hu38:=Tryz.underlying38;have hu65:=Tryz.underlying65;have hu63:=Tryz.underlying63;obtain ⟨HR0_0,HC0_0,HR0_1,HC0_1,HR0_2,HC0_2⟩:=hd6 hr0_0 hc0_0 hr0_1 hc0_1 hr0_2 hc0_2;clear hr0_0 hc0_0 hr0_1 hc0_1 hr0_2 hc0_2;have HB:=am (Below.refl w.heap.size w);have H:((spec_l13Shape.f k l0_0 l0_1 l0_2).bind fun t194=>(spec_ProgCode.l0 k t194 0 l0_0 l0_1 l0_2))=some r:=h;clear h;replace H:=bd H;obtain ⟨t194,A2,H⟩:=H;have HC3:=am H;clear H;go_enter Tryz.func83,Tryz.ntmps83
 go_upto_block 0 with (first|((with_reducible refine gate_dst (N:=1) rfl ?_);(try (refine gate_guard (by rfl) ?_;dsimp only));refine box_event ?hg (N:=1) ?hd (cs:=#[.slice A0_0 l0_0.length c0_0,.slice A0_1 l0_1.length c0_1,.slice A0_2 l0_2.length c0_2]) (t:=38) ?hr ?_;(case hd=>rfl);(case hg=>rfl);(case hr=>first|(go_simp;done)|(go_simp;rfl));intro gb193 hg w4 hbox hb;have BK193:=am (hbox);have GE193:=am ((by rw [hg];exact (below_size (bl HB.out)):w.heap.size≤gb193));replace HB:=am (below_step (bl HB.out) hb);clear hb hbox hg;obtain ⟨hcz5_0,hcz5_1,hcz5_2,hfz5_0,hfz5_1,hfz5_2⟩:=f3 BK193.out)|((with_reducible refine gate_callee (f:=188) rfl ?_);refine gL 9 Tryz.func188 #[.agg #[.slice A0_0 l0_0.length c0_0,.slice A0_1 l0_1.length c0_1,.slice A0_2 l0_2.length c0_2]] ?_;(with_reducible refine (spec_l13Shape.calls k _ _ l0_0 _ _ l0_1 _ _ l0_2 t194 _ ?_ ?_ ?_ ?_ ?_ ?_ A2.out).mono ?_);exact kc (Kd.C_below HR0_0.out HB.out);exact HC0_0.out;exact kc (Kd.C_below HR0_1.out HB.out);exact HC0_1.out;exact kc (Kd.C_below HR0_2.out HB.out);exact HC0_2.out;rintro e w6 ⟨rfl,hb⟩;refine ⟨_,rfl,?_⟩;replace BK193:=am (blk_below (g:=gb193) (o:=.cells #[.slice A0_0 l0_0.length c0_0,.slice A0_1 l0_1.length c0_1,.slice A0_2 l0_2.length c0_2] 38 (0,0)) (bk BK193.out) hb);replace HB:=am (below_step (bs HB.out GE193.out) hb)))
 (try simp only [Act.put,List.setIfInBounds_toArray,List.set_cons_zero,List.set_cons_succ])
 go_cut [3] (fun v3 wc=>∃ (kq:Nat) (x3_2:Int),v3=.int .i64 x3_2∧Aside0 (spec_ProgCode.j1 kq x3_2 l0_0 l0_1 l0_2=some r)∧Aside0 (kq≤k)∧Aside0 (wc.heap[gb193]?=some (.cells #[(.slice A0_0 l0_0.length c0_0),(.slice A0_1 l0_1.length c0_1),(.slice A0_2 l0_2.length c0_2)] 38 (0,0)))∧Aside0 (Below w.heap.size w wc))
 case first=>
  have H:=HC3.out;clear HC3;have H':=am H;clear H;go_wp2
  go_loopg [3,4] k (fun kq v3 v4 w'=>∃ (x3_1:Int) (x4_1:Int),v3=.int .i64 x3_1∧v4=.int .i64 x4_1∧Aside0 (spec_ProgCode.l0 kq x3_1 x4_1 l0_0 l0_1 l0_2=some r)∧Aside0 (kq≤k)∧Aside0 (w'.heap[gb193]?=some (.cells #[(.slice A0_0 l0_0.length c0_0),(.slice A0_1 l0_1.length c0_1),(.slice A0_2 l0_2.length c0_2)] 38 (0,0)))∧Aside0 (Below w.heap.size w w'))
  case atStart=>exact ⟨(t194),(0),xa,xa,H',⟨Nat.le_refl _⟩,⟨bk BK193.out⟩,⟨bs HB.out GE193.out⟩⟩
  case round=>
   clear H';obtain ⟨x3_1,x4_1,rfl,rfl,HA,HK1,BK193,HB⟩:=hrel
   cases gk with
   | zero=>exact absurd HA.out (by simp [spec_ProgCode.l0])
   | succ k1=>
    have H:=HA.out;clear HA;simp only [spec_ProgCode.l0] at H;replace H:=ic H;obtain ⟨c7b0,H⟩|⟨c7b0,H⟩:=H
    ·(first|rw [c7b0]|(simp only [i64_w];rw [c7b0])|skip)
     replace H:=ii H;obtain ⟨c8,H⟩|⟨c8,H⟩:=H
     ·have c8b0:(x3_1 == 0)=true:=beq_iff_eq.mpr c8;have c8b1:(x3_1 != 0)=false:=bne_eq_false_iff_eq.mpr c8;clear c8;replace H:=ii H;obtain ⟨c9,H⟩|⟨c9,H⟩:=H
      ·have c9b0:=decide_eq_true c9;clear c9;replace H:=bd H;obtain ⟨t196,A10,H⟩:=H;have H':=am H;clear H;obtain ⟨hcz11_0,hcz11_1,hcz11_2,hfz11_0,hfz11_1,hfz11_2⟩:=f3 BK193.out
       try go_wp2
       replace BK193:=am (blk_drew BK193.out);replace HB:=am (below_drew1 HB.out);obtain ⟨p195,q195,ad195,A195_1,c195_1,A195_2,c195_2,e195,hw195_0,hw195_1,hw195_2,HC195_1,HR195_1,HC195_2,HR195_2⟩:=aT65 HR0_0.out x4_1;cases e195;have hx195_0:=pb HB.out hw195_0;have hx195_1:=pb HB.out hw195_1;have hx195_2:=pb HB.out hw195_2;refine start_ (n:=8) (S:=fun w'=>w'.cell? ⟨gb193,0,none⟩=some (.slice (some ad195) l0_0.length c0_0)∧w'.cell? ⟨gb193,1,none⟩=some (.slice A0_1 l0_1.length c0_1)∧w'.cell? ⟨gb193,2,none⟩=some (.slice A0_2 l0_2.length c0_2)∧w'.cell? (ad195.add ((x4_1).toNat * 3))=some (.string ((rd_T65 l0_0 x4_1).f0))∧w'.cell? ⟨(ad195.add ((x4_1).toNat * 3)).block,(ad195.add ((x4_1).toNat * 3)).off+1,none⟩=some (.slice A195_1 ((rd_T65 l0_0 x4_1).f1).length c195_1)∧w'.cell? ⟨(ad195.add ((x4_1).toNat * 3)).block,(ad195.add ((x4_1).toNat * 3)).off+2,none⟩=some (.slice A195_2 ((rd_T65 l0_0 x4_1).f2.f0).length c195_2)) (ds:=[]) #[false,false,false,false,false,false,false,false] (by kernel_rfl) rfl rfl ⟨zc BK193.out 0,zc BK193.out 1,zc BK193.out 2,(pb HB.out hw195_0),(pb HB.out hw195_1),(pb HB.out hw195_2)⟩ (fun hHeld=>?_);refine with_tabW spec_ProgCode.tab5 spec_ProgCode.bits5 (fun HT_ HW_=>?_);generalize wr.drew=w12 at BK193 HB HR195_1 HR195_2 hx195_0 hx195_1 hx195_2 hHeld ⊢;refine pv 1 22 HT_.out ?_;refine pv 3 24 HT_.out ?_;refine tv 0 21 HT_.out HW_.out hHeld ?_;refine tv 2 23 HT_.out HW_.out hHeld ?_;refine pv 4 25 HT_.out ?_;refine tv 5 26 HT_.out HW_.out hHeld ?_;refine o1 6 27 HT_.out fun K hK=>?_
       refine gs Tryz.func145 #[.agg #[.slice (some ad195) l0_0.length c0_0,.slice A0_1 l0_1.length c0_1,.slice A0_2 l0_2.length c0_2],.agg #[.string ((rd_T65 l0_0 x4_1).f0),.slice A195_1 ((rd_T65 l0_0 x4_1).f1).length c195_1,.slice A195_2 ((rd_T65 l0_0 x4_1).f2.f0).length c195_2]] ?_;with_reducible refine (spec_l13DefCode.calls k1 _ _ l0_0 _ _ l0_1 _ _ l0_2 ((rd_T65 l0_0 x4_1).f0) _ _ ((rd_T65 l0_0 x4_1).f1) _ _ ((rd_T65 l0_0 x4_1).f2.f0) t196 _ ?_ ?_ ?_ ?_ ?_ ?_ ?_ ?_ ?_ ?_ A10.out).mono ?_
       exact kc (Kd.C_below HR0_0.out HB.out);exact HC0_0.out;exact kc (Kd.C_below HR0_1.out HB.out);exact HC0_1.out;exact kc (Kd.C_below HR0_2.out HB.out);exact HC0_2.out;exact kc (Kd.C_below HR195_1.out HB.out);exact HC195_1.out;exact kc (Kd.C_below HR195_2.out HB.out);exact HC195_2.out;rintro e w13 ⟨rfl,hb⟩;refine ⟨_,rfl,?_⟩;replace BK193:=am (blk_below (g:=gb193) (o:=.cells #[.slice (some ad195) l0_0.length c0_0,.slice A0_1 l0_1.length c0_1,.slice A0_2 l0_2.length c0_2] 38 (0,0)) (bk BK193.out) hb);replace HB:=am (below_step (bs HB.out GE193.out) hb);refine hK.out _ _ ⟨zc BK193.out 0,zc BK193.out 1,zc BK193.out 2,(pb HB.out hw195_0),(pb HB.out hw195_1),(pb HB.out hw195_2)⟩ (fun hHeld=>?_);clear hK K;refine nr ?_;refine pv 7 3 HT_.out ?_;refine done_ (done_of HT_.out (by kernel_rfl)) ?_
       try go_wp2
       go_roundg k1
       case measure=>have:=HK1.out;omega
       case rel=>exact ⟨(t196),(wrap64 (x4_1+1)),xa,xa,H',⟨by have:=HK1.out;omega⟩,⟨bk BK193.out⟩,⟨bs HB.out GE193.out⟩⟩
      ·exact absurd H (by simp)
     ·have c8b0:(x3_1 == 0)=false:=beq_eq_false_iff_ne.mpr c8;have c8b1:(x3_1 != 0)=true:=bne_iff_ne.mpr c8;have H':=am H;clear H;obtain ⟨hcz14_0,hcz14_1,hcz14_2,hfz14_0,hfz14_1,hfz14_2⟩:=f3 BK193.out;go_wp2
      go_meet
      case rel=>exact ⟨_,(x3_1),xa,H',⟨by have:=HK1.out;first|omega|exact Nat.le_refl _⟩,⟨bk BK193.out⟩,⟨bs HB.out GE193.out⟩⟩
    ·(first|rw [c7b0]|(simp only [i64_w];rw [c7b0])|skip)
     have H':=am H;clear H;obtain ⟨hcz15_0,hcz15_1,hcz15_2,hfz15_0,hfz15_1,hfz15_2⟩:=f3 BK193.out;go_wp2
     go_meet
     case rel=>exact ⟨_,(x3_1),xa,H',⟨by have:=HK1.out;first|omega|exact Nat.le_refl _⟩,⟨bk BK193.out⟩,⟨bs HB.out GE193.out⟩⟩
 case rest=>
  clear HC3;obtain ⟨kq,x3_2,rfl,HA,HJ2,BK193,HB⟩:=hcut
  cases kq with
  | zero=>exact absurd HA.out (by simp [spec_ProgCode.j1])
  | succ kj2=>
   have H:=HA.out;clear HA;simp only [spec_ProgCode.j1] at H;have HC16:=am H;clear H
   go_upto_block 2 with (fail)
   go_cut [3] (fun v3 wc=>∃ (kq:Nat) (x3_15:Int),v3=.int .i64 x3_15∧Aside0 (spec_ProgCode.j3 kq x3_15 l0_0 l0_1 l0_2=some r)∧Aside0 (kq≤kj2)∧Aside0 (wc.heap[gb193]?=some (.cells #[(.slice A0_0 l0_0.length c0_0),(.slice A0_1 l0_1.length c0_1),(.slice A0_2 l0_2.length c0_2)] 38 (0,0)))∧Aside0 (Below w.heap.size w wc))
   case first=>
    have H:=HC16.out;clear HC16;have H':=am H;clear H;go_wp2
    go_loopg [3,5] kj2 (fun kq v3 v5 w'=>∃ (x3_2:Int) (x5_2:Int),v3=.int .i64 x3_2∧v5=.int .i64 x5_2∧Aside0 (spec_ProgCode.l1 kq x3_2 x5_2 l0_0 l0_1 l0_2=some r)∧Aside0 (kq≤kj2)∧Aside0 (w'.heap[gb193]?=some (.cells #[(.slice A0_0 l0_0.length c0_0),(.slice A0_1 l0_1.length c0_1),(.slice A0_2 l0_2.length c0_2)] 38 (0,0)))∧Aside0 (Below w.heap.size w w'))
    case atStart=>exact ⟨(x3_2),(0),xa,xa,H',⟨Nat.le_refl _⟩,⟨bk BK193.out⟩,⟨bs HB.out GE193.out⟩⟩
    case round=>
     clear H';obtain ⟨x3_2,x5_2,rfl,rfl,HA,HK2,BK193,HB⟩:=hrel
     cases gk with
     | zero=>exact absurd HA.out (by simp [spec_ProgCode.l1])
     | succ k2=>
      have H:=HA.out;clear HA;simp only [spec_ProgCode.l1] at H;replace H:=ic H;obtain ⟨c17b0,H⟩|⟨c17b0,H⟩:=H
      ·(first|rw [c17b0]|(simp only [i64_w];rw [c17b0])|skip)
       replace H:=ii H;obtain ⟨c18,H⟩|⟨c18,H⟩:=H
       ·have c18b0:(x3_2 == 0)=true:=beq_iff_eq.mpr c18;have c18b1:(x3_2 != 0)=false:=bne_eq_false_iff_eq.mpr c18;clear c18;replace H:=ii H;obtain ⟨c19,H⟩|⟨c19,H⟩:=H
        ·have c19b0:=decide_eq_true c19;clear c19;replace H:=bd H;obtain ⟨t198,A20,H⟩:=H;have H':=am H;clear H;obtain ⟨hcz21_0,hcz21_1,hcz21_2,hfz21_0,hfz21_1,hfz21_2⟩:=f3 BK193.out
         try go_wp2
         replace BK193:=am (blk_drew BK193.out);replace HB:=am (below_drew1 HB.out);obtain ⟨p197,q197,ad197,A197_1,c197_1,A197_2,c197_2,e197,hw197_0,hw197_1,hw197_2,HC197_1,HR197_1,HC197_2,HR197_2⟩:=aT63 HR0_2.out x5_2;cases e197;have hx197_0:=pb HB.out hw197_0;have hx197_1:=pb HB.out hw197_1;have hx197_2:=pb HB.out hw197_2;refine start_ (n:=8) (S:=fun w'=>w'.cell? ⟨gb193,0,none⟩=some (.slice A0_0 l0_0.length c0_0)∧w'.cell? ⟨gb193,1,none⟩=some (.slice A0_1 l0_1.length c0_1)∧w'.cell? ⟨gb193,2,none⟩=some (.slice (some ad197) l0_2.length c0_2)∧w'.cell? (ad197.add ((x5_2).toNat * 3))=some (.int .i64 ((rd_T63 l0_2 x5_2).f0))∧w'.cell? ⟨(ad197.add ((x5_2).toNat * 3)).block,(ad197.add ((x5_2).toNat * 3)).off+1,none⟩=some (.slice A197_1 ((rd_T63 l0_2 x5_2).f1.f0).length c197_1)∧w'.cell? ⟨(ad197.add ((x5_2).toNat * 3)).block,(ad197.add ((x5_2).toNat * 3)).off+2,none⟩=some (.slice A197_2 ((rd_T63 l0_2 x5_2).f2.f0).length c197_2)) (ds:=[]) #[false,false,false,false,false,false,false,false] (by kernel_rfl) rfl rfl ⟨zc BK193.out 0,zc BK193.out 1,zc BK193.out 2,(pb HB.out hw197_0),(pb HB.out hw197_1),(pb HB.out hw197_2)⟩ (fun hHeld=>?_);refine with_tabW spec_ProgCode.tab9 spec_ProgCode.bits9 (fun HT_ HW_=>?_);generalize wr.drew=w22 at BK193 HB HR197_1 HR197_2 hx197_0 hx197_1 hx197_2 hHeld ⊢;refine pv 1 40 HT_.out ?_;refine pv 3 42 HT_.out ?_;refine tv 0 39 HT_.out HW_.out hHeld ?_;refine tv 2 41 HT_.out HW_.out hHeld ?_;refine pv 4 43 HT_.out ?_;refine tv 5 44 HT_.out HW_.out hHeld ?_;refine o1 6 45 HT_.out fun K hK=>?_
         refine gs Tryz.func146 #[.agg #[.slice A0_0 l0_0.length c0_0,.slice A0_1 l0_1.length c0_1,.slice (some ad197) l0_2.length c0_2],.agg #[.int .i64 ((rd_T63 l0_2 x5_2).f0),.slice A197_1 ((rd_T63 l0_2 x5_2).f1.f0).length c197_1,.slice A197_2 ((rd_T63 l0_2 x5_2).f2.f0).length c197_2]] ?_;with_reducible refine (spec_l13RelCode.calls k2 _ _ l0_0 _ _ l0_1 _ _ l0_2 ((rd_T63 l0_2 x5_2).f0) _ _ ((rd_T63 l0_2 x5_2).f1.f0) _ _ ((rd_T63 l0_2 x5_2).f2.f0) t198 _ ?_ ?_ ?_ ?_ ?_ ?_ ?_ ?_ ?_ ?_ A20.out).mono ?_
         exact kc (Kd.C_below HR0_0.out HB.out);exact HC0_0.out;exact kc (Kd.C_below HR0_1.out HB.out);exact HC0_1.out;exact kc (Kd.C_below HR0_2.out HB.out);exact HC0_2.out;exact kc (Kd.C_below HR197_1.out HB.out);exact HC197_1.out;exact kc (Kd.C_below HR197_2.out HB.out);exact HC197_2.out;rintro e w23 ⟨rfl,hb⟩;refine ⟨_,rfl,?_⟩;replace BK193:=am (blk_below (g:=gb193) (o:=.cells #[.slice A0_0 l0_0.length c0_0,.slice A0_1 l0_1.length c0_1,.slice (some ad197) l0_2.length c0_2] 38 (0,0)) (bk BK193.out) hb);replace HB:=am (below_step (bs HB.out GE193.out) hb);refine hK.out _ _ ⟨zc BK193.out 0,zc BK193.out 1,zc BK193.out 2,(pb HB.out hw197_0),(pb HB.out hw197_1),(pb HB.out hw197_2)⟩ (fun hHeld=>?_);clear hK K;refine nr ?_;refine pv 7 3 HT_.out ?_;refine done_ (done_of HT_.out (by kernel_rfl)) ?_
         try go_wp2
         go_roundg k2
         case measure=>have:=HJ2.out;have:=HK2.out;omega
         case rel=>exact ⟨(t198),(wrap64 (x5_2+1)),xa,xa,H',⟨by have:=HJ2.out;have:=HK2.out;omega⟩,⟨bk BK193.out⟩,⟨bs HB.out GE193.out⟩⟩
        ·exact absurd H (by simp)
       ·have c18b0:(x3_2 == 0)=false:=beq_eq_false_iff_ne.mpr c18;have c18b1:(x3_2 != 0)=true:=bne_iff_ne.mpr c18;have H':=am H;clear H;obtain ⟨hcz24_0,hcz24_1,hcz24_2,hfz24_0,hfz24_1,hfz24_2⟩:=f3 BK193.out;go_wp2
        go_meet
        case rel=>exact ⟨_,(x3_2),xa,H',⟨by have:=HJ2.out;have:=HK2.out;first|omega|exact Nat.le_refl _⟩,⟨bk BK193.out⟩,⟨bs HB.out GE193.out⟩⟩
      ·(first|rw [c17b0]|(simp only [i64_w];rw [c17b0])|skip)
       have H':=am H;clear H;obtain ⟨hcz25_0,hcz25_1,hcz25_2,hfz25_0,hfz25_1,hfz25_2⟩:=f3 BK193.out;go_wp2
       go_meet
       case rel=>exact ⟨_,(x3_2),xa,H',⟨by have:=HJ2.out;have:=HK2.out;first|omega|exact Nat.le_refl _⟩,⟨bk BK193.out⟩,⟨bs HB.out GE193.out⟩⟩
   case rest=>
    clear HC16;obtain ⟨kq,x3_15,rfl,HA,HJ15,BK193,HB⟩:=hcut
    cases kq with
    | zero=>exact absurd HA.out (by simp [spec_ProgCode.j3])
    | succ kj15=>
     have H:=HA.out;clear HA;simp only [spec_ProgCode.j3] at H;replace H:=ii H;obtain ⟨c26,H⟩|⟨c26,H⟩:=H
     ·have c26b0:(x3_15 == 0)=true:=beq_iff_eq.mpr c26;have c26b1:(x3_15 != 0)=false:=bne_eq_false_iff_eq.mpr c26;clear c26;replace H:=bd H;obtain ⟨t199,A27,H⟩:=H;have H':=am H;clear H;obtain ⟨hcz28_0,hcz28_1,hcz28_2,hfz28_0,hfz28_1,hfz28_2⟩:=f3 BK193.out;go_wp2_with (first|((with_reducible refine gate_callee (f:=147) rfl ?_);refine gL 50 Tryz.func147 #[.agg #[.slice A0_0 l0_0.length c0_0,.slice A0_1 l0_1.length c0_1,.slice A0_2 l0_2.length c0_2]] ?_;(with_reducible refine (spec_l13Table.calls kj15 _ _ l0_0 _ _ l0_1 _ _ l0_2 t199 _ ?_ ?_ ?_ ?_ ?_ ?_ A27.out).mono ?_);exact kc (Kd.C_below HR0_0.out HB.out);exact HC0_0.out;exact kc (Kd.C_below HR0_1.out HB.out);exact HC0_1.out;exact kc (Kd.C_below HR0_2.out HB.out);exact HC0_2.out;rintro e w29 ⟨v200,rfl,ho0,hb⟩;refine ⟨_,rfl,?_⟩;have HO201:=am (Kd.S_lower ho0 (below_size (bs HB.out GE193.out)));replace BK193:=am (blk_below (g:=gb193) (o:=.cells #[.slice A0_0 l0_0.length c0_0,.slice A0_1 l0_1.length c0_1,.slice A0_2 l0_2.length c0_2] 38 (0,0)) (bk BK193.out) hb);replace HB:=am (below_step (bs HB.out GE193.out) hb)))
      go_loopg [7] kj15 (fun kq v7 w'=>∃ (x7_3:Int),v7=.int .i64 x7_3∧Aside0 (spec_ProgCode.l2 kq t199 x7_3 l0_0 l0_1 l0_2=some r)∧Aside0 (kq≤kj15)∧Aside0 (Kd.S (Kd.slice 4 Kd.bool) 174 w' w.heap.size (fun _=>True) v200 t199)∧Aside0 (w'.heap[gb193]?=some (.cells #[(.slice A0_0 l0_0.length c0_0),(.slice A0_1 l0_1.length c0_1),(.slice A0_2 l0_2.length c0_2)] 38 (0,0)))∧Aside0 (Below w.heap.size w w'))
      case atStart=>exact ⟨(0),xa,H',⟨Nat.le_refl _⟩,⟨cS HO201.out⟩,⟨bk BK193.out⟩,⟨bs HB.out GE193.out⟩⟩
      case round=>
       clear H';obtain ⟨x7_3,rfl,HA,HK3,HO_6,BK193,HB⟩:=hrel
       cases gk with
       | zero=>exact absurd HA.out (by simp [spec_ProgCode.l2])
       | succ k3=>
        have H:=HA.out;clear HA;simp only [spec_ProgCode.l2] at H;replace H:=ic H;obtain ⟨c30b0,H⟩|⟨c30b0,H⟩:=H
        ·replace H:=ii H;obtain ⟨c31,H⟩|⟨c31,H⟩:=H
         ·have c31b0:=decide_eq_true c31;clear c31;replace H:=ii H;obtain ⟨c32,H⟩|⟨c32,H⟩:=H
          ·have c32b0:=decide_eq_true c32;clear c32;obtain ⟨bq33,hbq33⟩:∃ b_:Bool,b_=(rdOf false (rd_L9 t199 x7_3) x7_3):=⟨_,rfl⟩;replace H:(if bq33=true then (some 10) else (spec_ProgCode.l2 k3 t199 (wrap64 (x7_3+1)) l0_0 l0_1 l0_2))=some r:=by rw [← hbq33] at H;exact H
           have Nbq33:=am hbq33;clear hbq33
           by_cases c34:bq33=true
           ·subst c34;rw [if_pos rfl] at H;obtain rfl:=si H;obtain ⟨Ao35,co35,eo35⟩:=Kd.S_slice HO_6.out;subst eo35;have p202:0≤(x7_3:Int):=od;have q202:x7_3<(t199.length:Int):=od;obtain ⟨ad202,A202_0,c202_0,e202,hx202_0,hl202_0,hi202_0⟩:=at_L9 (Kd.S_reads' HO_6.out).2.2 x7_3 p202 q202;have hw202_0:=hx202_0;cases e202;obtain ⟨ce202,hce202,hMe202,hcc202⟩:=Kd.S_get HO_6.out [] x7_3 p202 (by first|exact q202|exact od|(have e_:=(Kd.S_reads' HO_6.out).1;omega));obtain ⟨ve202_0,rfl,ge202_0⟩:=hMe202;have hv202_0:=hcc202 0 _ rfl;rw [Nat.add_zero,show ((Kd.slice 4 Kd.bool)).sz=1 from rfl,Nat.mul_one] at hv202_0;replace hv202_0:=Option.some.inj (hv202_0.symm.trans hx202_0);rw [hv202_0] at ge202_0;have HL202_0:=am (show Kd.R Kd.bool 4 _ _ _ _ (rd_L9 t199 x7_3) from ge202_0);clear hv202_0 ge202_0;clear hcc202 hce202;have HR202_0:=am hi202_0;have HC202_0:=am hl202_0;clear hi202_0 hl202_0;replace p202:=eq_true p202;replace q202:=eq_true q202;have p203:0≤(x7_3:Int):=od;have q203:x7_3<((rd_L9 t199 x7_3).length:Int):=od;obtain ⟨ad203,e203,hx203_0⟩:=Kd.at_bool (by repeat (first|(with_reducible exact HR202_0.out)|(with_reducible refine Kd.C_alloc ?_ _)|(with_reducible refine Kd.C_drewN ?_ _)|(with_reducible refine Kd.C_drew ?_)|exact HR202_0.out)) x7_3 p203 q203
            (try rw [← Nbq33.out] at hx203_0)
            cases e203;replace p203:=eq_true p203
            replace q203:=eq_true q203;go_wp2;go_ret;exact ⟨xe,bs HB.out GE193.out⟩
           ·replace c34:=Bool.eq_false_iff.mpr c34;subst c34;rw [if_neg (show ¬ (false=true) by decide)] at H;have H':=am H;clear H;obtain ⟨Ao36,co36,eo36⟩:=Kd.S_slice HO_6.out;subst eo36;have p202:0≤(x7_3:Int):=od;have q202:x7_3<(t199.length:Int):=od;obtain ⟨ad202,A202_0,c202_0,e202,hx202_0,hl202_0,hi202_0⟩:=at_L9 (Kd.S_reads' HO_6.out).2.2 x7_3 p202 q202;have hw202_0:=hx202_0;cases e202;obtain ⟨ce202,hce202,hMe202,hcc202⟩:=Kd.S_get HO_6.out [] x7_3 p202 (by first|exact q202|exact od|(have e_:=(Kd.S_reads' HO_6.out).1;omega));obtain ⟨ve202_0,rfl,ge202_0⟩:=hMe202;have hv202_0:=hcc202 0 _ rfl;rw [Nat.add_zero,show ((Kd.slice 4 Kd.bool)).sz=1 from rfl,Nat.mul_one] at hv202_0;replace hv202_0:=Option.some.inj (hv202_0.symm.trans hx202_0);rw [hv202_0] at ge202_0;have HL202_0:=am (show Kd.R Kd.bool 4 _ _ _ _ (rd_L9 t199 x7_3) from ge202_0);clear hv202_0 ge202_0;clear hcc202 hce202;have HR202_0:=am hi202_0;have HC202_0:=am hl202_0;clear hi202_0 hl202_0;replace p202:=eq_true p202;replace q202:=eq_true q202;have p203:0≤(x7_3:Int):=od;have q203:x7_3<((rd_L9 t199 x7_3).length:Int):=od;obtain ⟨ad203,e203,hx203_0⟩:=Kd.at_bool (by repeat (first|(with_reducible exact HR202_0.out)|(with_reducible refine Kd.C_alloc ?_ _)|(with_reducible refine Kd.C_drewN ?_ _)|(with_reducible refine Kd.C_drew ?_)|exact HR202_0.out)) x7_3 p203 q203
            (try rw [← Nbq33.out] at hx203_0)
            cases e203;replace p203:=eq_true p203
            replace q203:=eq_true q203;go_wp2
            go_roundg k3
            case measure=>have:=HJ2.out;have:=HJ15.out;have:=HK3.out;omega
            case rel=>exact ⟨(wrap64 (x7_3+1)),xa,H',⟨by have:=HJ2.out;have:=HJ15.out;have:=HK3.out;omega⟩,⟨cS HO_6.out⟩,⟨bk BK193.out⟩,⟨bs HB.out GE193.out⟩⟩
          ·exact absurd H (by simp)
         ·exact absurd H (by simp)
        ·replace H:=ii H;obtain ⟨c37,H⟩|⟨c37,H⟩:=H
         ·have c37b0:((l0_1.length:Int) == 0)=true:=beq_iff_eq.mpr c37;have c37b1:((l0_1.length:Int) != 0)=false:=bne_eq_false_iff_eq.mpr c37;clear c37;obtain rfl:=si H;obtain ⟨Ao38,co38,eo38⟩:=Kd.S_slice HO_6.out;subst eo38;obtain ⟨hcz39_0,hcz39_1,hcz39_2,hfz39_0,hfz39_1,hfz39_2⟩:=f3 BK193.out;go_wp2;go_ret;exact ⟨xe,bs HB.out GE193.out⟩
         ·have c37b0:((l0_1.length:Int) == 0)=false:=beq_eq_false_iff_ne.mpr c37;have c37b1:((l0_1.length:Int) != 0)=true:=bne_iff_ne.mpr c37;have c37b2:¬ (l0_1=[]):=fun h_=>c37 (by rw [h_];rfl)
          replace H:=ii H;obtain ⟨c40,H⟩|⟨c40,H⟩:=H
          ·have c40b0:((l0_2.length:Int) == 0)=true:=beq_iff_eq.mpr c40;have c40b1:((l0_2.length:Int) != 0)=false:=bne_eq_false_iff_eq.mpr c40;clear c40;obtain rfl:=si H;obtain ⟨Ao41,co41,eo41⟩:=Kd.S_slice HO_6.out;subst eo41;obtain ⟨hcz42_0,hcz42_1,hcz42_2,hfz42_0,hfz42_1,hfz42_2⟩:=f3 BK193.out;go_wp2;go_ret;exact ⟨xe,bs HB.out GE193.out⟩
          ·have c40b0:((l0_2.length:Int) == 0)=false:=beq_eq_false_iff_ne.mpr c40;have c40b1:((l0_2.length:Int) != 0)=true:=bne_iff_ne.mpr c40;have c40b2:¬ (l0_2=[]):=fun h_=>c40 (by rw [h_];rfl)
           obtain rfl:=si H;obtain ⟨Ao43,co43,eo43⟩:=Kd.S_slice HO_6.out;subst eo43;obtain ⟨hcz44_0,hcz44_1,hcz44_2,hfz44_0,hfz44_1,hfz44_2⟩:=f3 BK193.out;go_wp2;go_ret;exact ⟨xe,bs HB.out GE193.out⟩
     ·have c26b0:(x3_15 == 0)=false:=beq_eq_false_iff_ne.mpr c26;have c26b1:(x3_15 != 0)=true:=bne_iff_ne.mpr c26;obtain rfl:=si H;go_wp2;go_ret;exact ⟨xe,bs HB.out GE193.out⟩
end Go.Proofs.YtbahacapnaohcaaGreatDoor.PB
