import Derived.Test.YtbahacapnaohcaaGreatDoorPBx18
import Derived.Test.YtbahacapnaohcaaGreatDoorPBx19
set_option linter.unusedVariables false
set_option linter.unusedSimpArgs false
namespace Go.Proofs.YtbahacapnaohcaaGreatDoor.PB
open Go.RowKit Go.Proofs.YtbahacapnaohcaaGreatDoorW.PrintWords Go.Proofs.YtbahacapnaohcaaGreatDoorW.PrintLast Go.Proofs.YtbahacapnaohcaaGreatDoorW.PrintMore
mutual
def spec_l13Shape.j0:Nat→Bool→List (S65)→List ByteArray→List (S63)→Option (Int)
 | 0,_,_,_,_=>none
 | k+1,x26,x180000,x180001,x180002=>if x26=true then (some 5) else (spec_l13Shape.l0 k ([]:List ByteArray) 0 x180000 x180001 x180002)
def spec_l13Shape.l0:Nat→List ByteArray→Int→List (S65)→List ByteArray→List (S63)→Option (Int)
 | 0,_,_,_,_,_=>none
 | k+1,x3,x4,x180000,x180001,x180002=>if x4<(x180000.length:Int) then (if 0≤x4 then (if (((rd_T65 x180000 x4).f1).length:Int) > 6 then (some 5) else (if x3.length<8796093022208 then (spec_l13Shape.l0 k (x3++[(rd_T65 x180000 x4).f0]) (wrap64 (x4+1)) x180000 x180001 x180002) else (none))) else (none)) else (spec_l13Shape.l1 k x3 0 x180000 x180001 x180002)
def spec_l13Shape.l1:Nat→List ByteArray→Int→List (S65)→List ByteArray→List (S63)→Option (Int)
 | 0,_,_,_,_,_=>none
 | k+1,x3,x5,x180000,x180001,x180002=>if x5<(x180001.length:Int) then (if 0≤x5 then (if x3.length<8796093022208 then (spec_l13Shape.l1 k (x3++[rdOf ByteArray.empty x180001 x5]) (wrap64 (x5+1)) x180000 x180001 x180002) else (none)) else (none)) else ((spec_l13Distinct.f k x3).bind fun t190=>(spec_l13Shape.l2 k (!t190) 0 x180000 x180001 x180002))
def spec_l13Shape.l2:Nat→Bool→Int→List (S65)→List ByteArray→List (S63)→Option (Int)
 | 0,_,_,_,_,_=>none
 | k+1,x6,x7,x180000,x180001,x180002=>if x7<(x180000.length:Int) then (if x6=true then (spec_l13Shape.l2 k true (wrap64 (x7+1)) x180000 x180001 x180002) else (if 0≤x7 then ((spec_l13Distinct.f k ((rd_T65 x180000 x7).f1)).bind fun t192=>(spec_l13Shape.l2 k (!t192) (wrap64 (x7+1)) x180000 x180001 x180002)) else (none))) else (if x6=true then (some 6) else (some 0))
end
def spec_l13Shape.f (k:Nat) (l0_0:List (S65)) (l0_1:List ByteArray) (l0_2:List (S63)):Option (Int):=(spec_l13Formed.f k l0_0 l0_1 l0_2).bind fun t180=>(if t180=true then (if (l0_0.length:Int) > 12 then (spec_l13Shape.j0 k true l0_0 l0_1 l0_2) else (if (l0_1.length:Int) > 6 then (spec_l13Shape.j0 k true l0_0 l0_1 l0_2) else (spec_l13Shape.j0 k (decide ((l0_2.length:Int) > 12)) l0_0 l0_1 l0_2))) else (some 4))
set_option maxHeartbeats 8000000 in
set_option maxRecDepth 100000 in
theorem spec_l13Shape.calls (k:Nat) (A0_0:Option Addr) (c0_0:Nat) (l0_0:List (S65)) (A0_1:Option Addr) (c0_1:Nat) (l0_1:List ByteArray) (A0_2:Option Addr) (c0_2:Nat) (l0_2:List (S63)) (r:Int) (w:World) (hr0_0:Kd.C k65 w A0_0 l0_0.length l0_0) (hc0_0:l0_0.length≤c0_0) (hr0_1:Kd.C Kd.string w A0_1 l0_1.length l0_1) (hc0_1:l0_1.length≤c0_1) (hr0_2:Kd.C k63 w A0_2 l0_2.length l0_2) (hc0_2:l0_2.length≤c0_2) (h:spec_l13Shape.f k l0_0 l0_1 l0_2=some r) :
 Calls Tryz.prog 188 #[.agg #[.slice A0_0 l0_0.length c0_0,.slice A0_1 l0_1.length c0_1,.slice A0_2 l0_2.length c0_2]] w fun e w'=>e=.returned (.int .i64 r)∧Below w.heap.size w w':=by
 have hu38:=Tryz.underlying38;obtain ⟨HR0_0,HC0_0,HR0_1,HC0_1,HR0_2,HC0_2⟩:=hd6 hr0_0 hc0_0 hr0_1 hc0_1 hr0_2 hc0_2;clear hr0_0 hc0_0 hr0_1 hc0_1 hr0_2 hc0_2;have HB:=am (Below.refl w.heap.size w);have H:((spec_l13Formed.f k l0_0 l0_1 l0_2).bind fun t180=>(if t180=true then (if (l0_0.length:Int) > 12 then (spec_l13Shape.j0 k true l0_0 l0_1 l0_2) else (if (l0_1.length:Int) > 6 then (spec_l13Shape.j0 k true l0_0 l0_1 l0_2) else (spec_l13Shape.j0 k (decide ((l0_2.length:Int) > 12)) l0_0 l0_1 l0_2))) else (some 4)))=some r:=h;clear h;replace H:=bd H;obtain ⟨t180,A2,H⟩:=H
 by_cases c3:t180=true
 ·subst c3;rw [if_pos rfl] at H;have HC4:=am H;clear H;go_enter Tryz.func188,Tryz.ntmps188
  go_upto_region 3 with (first|((with_reducible refine gate_dst (N:=1) rfl ?_);(try (refine gate_guard (by rfl) ?_;dsimp only));refine box_event ?hg (N:=1) ?hd (cs:=#[.slice A0_0 l0_0.length c0_0,.slice A0_1 l0_1.length c0_1,.slice A0_2 l0_2.length c0_2]) (t:=38) ?hr ?_;(case hd=>rfl);(case hg=>rfl);(case hr=>first|(go_simp;done)|(go_simp;rfl));intro gb179 hg w5 hbox hb;have BK179:=am (hbox);have GE179:=am ((by rw [hg];exact (below_size (bl HB.out)):w.heap.size≤gb179));replace HB:=am (below_step (bl HB.out) hb);clear hb hbox hg;obtain ⟨hcz6_0,hcz6_1,hcz6_2,hfz6_0,hfz6_1,hfz6_2⟩:=f3 BK179.out)|((with_reducible refine gate_callee (f:=284) rfl ?_);refine gL 9 Tryz.func284 #[.agg #[.slice A0_0 l0_0.length c0_0,.slice A0_1 l0_1.length c0_1,.slice A0_2 l0_2.length c0_2]] ?_;(with_reducible refine (spec_l13Formed.calls k _ _ l0_0 _ _ l0_1 _ _ l0_2 true _ ?_ ?_ ?_ ?_ ?_ ?_ A2.out).mono ?_);exact kc (Kd.C_below HR0_0.out HB.out);exact HC0_0.out;exact kc (Kd.C_below HR0_1.out HB.out);exact HC0_1.out;exact kc (Kd.C_below HR0_2.out HB.out);exact HC0_2.out;rintro e w7 ⟨rfl,hb⟩;refine ⟨_,rfl,?_⟩;replace BK179:=am (blk_below (g:=gb179) (o:=.cells #[.slice A0_0 l0_0.length c0_0,.slice A0_1 l0_1.length c0_1,.slice A0_2 l0_2.length c0_2] 38 (0,0)) (bk BK179.out) hb);replace HB:=am (below_step (bs HB.out GE179.out) hb)))
  (try simp only [Act.put,List.setIfInBounds_toArray,List.set_cons_zero,List.set_cons_succ])
  go_cut [26] (fun v26 wc=>∃ (kq:Nat) (x26_3:Bool),v26=.bool x26_3∧Aside0 (spec_l13Shape.j0 kq x26_3 l0_0 l0_1 l0_2=some r)∧Aside0 (kq≤k)∧Aside0 (wc.heap[gb179]?=some (.cells #[(.slice A0_0 l0_0.length c0_0),(.slice A0_1 l0_1.length c0_1),(.slice A0_2 l0_2.length c0_2)] 38 (0,0)))∧Aside0 (Below w.heap.size w wc))
  case first=>
   have H:=HC4.out;clear HC4;replace H:=ii H;obtain ⟨c8,H⟩|⟨c8,H⟩:=H
   ·have c8b0:=decide_eq_true c8;have c8b1:decide (12<l0_0.length)=true:=decide_eq_true (by omega);clear c8
    (first|rw [c8b0]|(simp only [i64_w];rw [c8b0])|skip)
    have H':=am H;clear H;obtain ⟨hcz9_0,hcz9_1,hcz9_2,hfz9_0,hfz9_1,hfz9_2⟩:=f3 BK179.out;go_wp2
    go_meet
    case rel=>exact ⟨_,(true),xa,H',⟨by first|omega|exact Nat.le_refl _⟩,⟨bk BK179.out⟩,⟨bs HB.out GE179.out⟩⟩
   ·have c8b0:=decide_eq_false c8;have c8b1:decide (12<l0_0.length)=false:=decide_eq_false (by omega);clear c8
    (first|rw [c8b0]|(simp only [i64_w];rw [c8b0])|skip)
    replace H:=ii H;obtain ⟨c10,H⟩|⟨c10,H⟩:=H
    ·have c10b0:=decide_eq_true c10;have c10b1:decide (6<l0_1.length)=true:=decide_eq_true (by omega);clear c10;have H':=am H;clear H;obtain ⟨hcz11_0,hcz11_1,hcz11_2,hfz11_0,hfz11_1,hfz11_2⟩:=f3 BK179.out;go_wp2
     go_meet
     case rel=>exact ⟨_,(true),xa,H',⟨by first|omega|exact Nat.le_refl _⟩,⟨bk BK179.out⟩,⟨bs HB.out GE179.out⟩⟩
    ·have c10b0:=decide_eq_false c10;have c10b1:decide (6<l0_1.length)=false:=decide_eq_false (by omega);clear c10;have H':=am H;clear H;obtain ⟨hcz12_0,hcz12_1,hcz12_2,hfz12_0,hfz12_1,hfz12_2⟩:=f3 BK179.out;go_wp2
     go_meet
     case rel=>exact ⟨_,(decide ((l0_2.length:Int) > 12)),xa,H',⟨by first|omega|exact Nat.le_refl _⟩,⟨bk BK179.out⟩,⟨bs HB.out GE179.out⟩⟩
  case rest=>
   clear HC4;obtain ⟨kq,x26_3,rfl,HA,HJ3,BK179,HB⟩:=hcut
   cases kq with
   | zero=>exact absurd HA.out (by simp [spec_l13Shape.j0])
   | succ kj3=>
    have H:=HA.out;clear HA;simp only [spec_l13Shape.j0] at H
    by_cases c13:x26_3=true
    ·subst c13;rw [if_pos rfl] at H;obtain rfl:=si H;go_wp2;go_ret;exact ⟨xe,bs HB.out GE179.out⟩
    ·replace c13:=Bool.eq_false_iff.mpr c13;subst c13;rw [if_neg (show ¬ (false=true) by decide)] at H;have H':=am H;clear H;go_wp2
     go_loopg [3,4] kj3 (fun kq v3 v4 w'=>∃ (x3_2:List ByteArray) (x4_2:Int),v4=.int .i64 x4_2∧Aside0 (spec_l13Shape.l0 kq x3_2 x4_2 l0_0 l0_1 l0_2=some r)∧Aside0 (kq≤kj3)∧Aside0 (Kd.R Kd.string 9 w' w.heap.size (fun _=>True) v3 x3_2)∧Aside0 (w'.heap[gb179]?=some (.cells #[(.slice A0_0 l0_0.length c0_0),(.slice A0_1 l0_1.length c0_1),(.slice A0_2 l0_2.length c0_2)] 38 (0,0)))∧Aside0 (Below w.heap.size w w'))
     case atStart=>exact ⟨(([]:List ByteArray)),(0),xa,H',⟨Nat.le_refl _⟩,⟨by first|exact Kd.R_nil _ _ _ _ _|exact Kd.N_nil _ _ _ _ _|exact Kd.V_nil _ _ _ _ _|exact Kd.Q_nil _ _ _ _ _|exact Kd.S_nil _ _ _ _ _⟩,⟨bk BK179.out⟩,⟨bs HB.out GE179.out⟩⟩
     case round=>
      clear H';obtain ⟨x3_2,x4_2,rfl,HA,HK2,HO_3,BK179,HB⟩:=hrel
      cases gk with
      | zero=>exact absurd HA.out (by simp [spec_l13Shape.l0])
      | succ k2=>
       have H:=HA.out;clear HA;simp only [spec_l13Shape.l0] at H;replace H:=ic H;obtain ⟨c14b0,H⟩|⟨c14b0,H⟩:=H
       ·replace H:=ii H;obtain ⟨c15,H⟩|⟨c15,H⟩:=H
        ·have c15b0:=decide_eq_true c15;clear c15;replace H:=ii H;obtain ⟨c16,H⟩|⟨c16,H⟩:=H
         ·have c16b0:=decide_eq_true c16;have c16b1:decide (6<((rd_T65 l0_0 x4_2).f1).length)=true:=decide_eq_true (by omega);clear c16;obtain rfl:=si H;obtain ⟨hcz17_0,hcz17_1,hcz17_2,hfz17_0,hfz17_1,hfz17_2⟩:=f3 BK179.out;obtain ⟨p181,q181,ad181,A181_1,c181_1,A181_2,c181_2,e181,hw181_0,hw181_1,hw181_2,HC181_1,HR181_1,HC181_2,HR181_2⟩:=aT65 HR0_0.out x4_2;cases e181;have hx181_0:=pb HB.out hw181_0;have hx181_1:=pb HB.out hw181_1;have hx181_2:=pb HB.out hw181_2;go_wp2;go_ret;exact ⟨xe,bs HB.out GE179.out⟩
         ·have c16b0:=decide_eq_false c16;have c16b1:decide (6<((rd_T65 l0_0 x4_2).f1).length)=false:=decide_eq_false (by omega);clear c16;replace H:=ii H;obtain ⟨c18,H⟩|⟨c18,H⟩:=H
          ·have LMc18:=am c18;clear c18;obtain ⟨y183,hy183⟩:∃ y_:List ByteArray,y_=(x3_2++[(rd_T65 l0_0 x4_2).f0]):=⟨_,rfl⟩;replace H:(spec_l13Shape.l0 k2 y183 (wrap64 (x4_2+1)) l0_0 l0_1 l0_2)=some r:=by first|(rw [hy183];with_reducible exact H)|(have H2_:=(Option.bind_some _ _).symm.trans H;rw [hy183];with_reducible exact H2_)|(have H2_:=(Option.bind_some _ _).symm.trans H;with_reducible exact H2_)|with_reducible exact H|(rw [hy183];exact H)|exact H
           have Ny183:=am hy183;clear hy183;have H':=am H;clear H;obtain ⟨hcz19_0,hcz19_1,hcz19_2,hfz19_0,hfz19_1,hfz19_2⟩:=f3 BK179.out;obtain ⟨p181,q181,ad181,A181_1,c181_1,A181_2,c181_2,e181,hw181_0,hw181_1,hw181_2,HC181_1,HR181_1,HC181_2,HR181_2⟩:=aT65 HR0_0.out x4_2;cases e181;have hx181_0:=pb HB.out hw181_0;have hx181_1:=pb HB.out hw181_1;have hx181_2:=pb HB.out hw181_2;obtain ⟨p182,q182,ad182,A182_1,c182_1,A182_2,c182_2,e182,hw182_0,hw182_1,hw182_2,HC182_1,HR182_1,HC182_2,HR182_2⟩:=aT65 HR0_0.out x4_2;obtain rfl:ad181=ad182:=(by injection e182);have hx182_0:=pb HB.out hw182_0;have hx182_1:=pb HB.out hw182_1;have hx182_2:=pb HB.out hw182_2;have ea_:=Option.some.inj (hx181_1.symm.trans hx182_1);injection ea_ with ea_ en_ ec_
           subst ea_;subst ec_;clear en_;have ea_:=Option.some.inj (hx181_2.symm.trans hx182_2);injection ea_ with ea_ en_ ec_
           subst ea_;subst ec_;clear en_;go_wp2_with (first|((with_reducible refine gate_builtin (b:=.append) (xs:=#[.tmp 42,.tmp 49]) rfl ?_);(try (refine gate_guard (by rfl) ?_;dsimp only));at_builtin;refine Kd.R_append Kd.string (w0:=w) w.heap.size rfl (.tmp 42) (.tmp 49) 35 9 (.string ⟨#[]⟩) 16 rfl Tryz.underlying35 info9 rfl (by decide) (by omega) u3 x3_2 ((rd_T65 l0_0 x4_2).f0) [.string ((rd_T65 l0_0 x4_2).f0)] (fun _=>True) (fun _=>False) rfl rfl ?aP (fun _ hk=>hk.elim) ?aF ?aO ?aB ?aS ?aL ?_;(case aP=>exact rfl);(case aB=>exact (bs HB.out GE179.out));(case aF=>exact (fun _ _=>trivial));(case aO=>exact (cR' HO_3.out));(case aS=>exact (below_size (bs HB.out GE179.out)));(case aL=>have:=LMc18.out;omega);intro v184 w20 ho hb hg hat;rw [← Ny183.out] at ho;replace BK179:=am (blk_grown (g:=gb179) (o:=.cells #[.slice (some ad181) l0_0.length c0_0,.slice A0_1 l0_1.length c0_1,.slice A0_2 l0_2.length c0_2] 38 (0,0)) (bk BK179.out) hg (Kd.R_ne HO_3.out BK179.out (by decide)));replace HB:=am (hb);have HO185:=am (ho);clear HO_3 ho hb hg hat))
           go_roundg k2
           case measure=>have:=HJ3.out;have:=HK2.out;omega
           case rel=>exact ⟨(y183),(wrap64 (x4_2+1)),xa,H',⟨by have:=HJ3.out;have:=HK2.out;omega⟩,⟨cR' HO185.out⟩,⟨bk BK179.out⟩,⟨bs HB.out GE179.out⟩⟩
          ·exact absurd H (by simp)
        ·exact absurd H (by simp)
       ·have H':=am H;clear H;obtain ⟨hcz21_0,hcz21_1,hcz21_2,hfz21_0,hfz21_1,hfz21_2⟩:=f3 BK179.out;go_wp2
        go_loopg [3,5] k2 (fun kq v3 v5 w'=>∃ (x3_3:List ByteArray) (x5_3:Int),v5=.int .i64 x5_3∧Aside0 (spec_l13Shape.l1 kq x3_3 x5_3 l0_0 l0_1 l0_2=some r)∧Aside0 (kq≤k2)∧Aside0 (Kd.R Kd.string 9 w' w.heap.size (fun _=>True) v3 x3_3)∧Aside0 (w'.heap[gb179]?=some (.cells #[(.slice A0_0 l0_0.length c0_0),(.slice A0_1 l0_1.length c0_1),(.slice A0_2 l0_2.length c0_2)] 38 (0,0)))∧Aside0 (Below w.heap.size w w'))
        case atStart=>exact ⟨(x3_2),(0),xa,H',⟨Nat.le_refl _⟩,⟨cR' HO_3.out⟩,⟨bk BK179.out⟩,⟨bs HB.out GE179.out⟩⟩
        case round=>
         clear H';obtain ⟨x3_3,x5_3,rfl,HA,HK3,HO_3,BK179,HB⟩:=hrel
         cases gk with
         | zero=>exact absurd HA.out (by simp [spec_l13Shape.l1])
         | succ k3=>
          have H:=HA.out;clear HA;simp only [spec_l13Shape.l1] at H;replace H:=ic H;obtain ⟨c22b0,H⟩|⟨c22b0,H⟩:=H
          ·replace H:=ii H;obtain ⟨c23,H⟩|⟨c23,H⟩:=H
           ·have c23b0:=decide_eq_true c23;clear c23;replace H:=ii H;obtain ⟨c24,H⟩|⟨c24,H⟩:=H
            ·have LMc24:=am c24;clear c24;obtain ⟨y187,hy187⟩:∃ y_:List ByteArray,y_=(x3_3++[rdOf ByteArray.empty l0_1 x5_3]):=⟨_,rfl⟩;replace H:(spec_l13Shape.l1 k3 y187 (wrap64 (x5_3+1)) l0_0 l0_1 l0_2)=some r:=by first|(rw [hy187];with_reducible exact H)|(have H2_:=(Option.bind_some _ _).symm.trans H;rw [hy187];with_reducible exact H2_)|(have H2_:=(Option.bind_some _ _).symm.trans H;with_reducible exact H2_)|with_reducible exact H|(rw [hy187];exact H)|exact H
             have Ny187:=am hy187;clear hy187;have H':=am H;clear H;obtain ⟨hcz25_0,hcz25_1,hcz25_2,hfz25_0,hfz25_1,hfz25_2⟩:=f3 BK179.out;have p186:0≤(x5_3:Int):=od;have q186:x5_3<(l0_1.length:Int):=od;obtain ⟨ad186,e186,hx186_0⟩:=Kd.at_string HR0_1.out x5_3 p186 q186;cases e186;replace hx186_0:=(pb HB.out hx186_0);replace p186:=eq_true p186;replace q186:=eq_true q186;go_wp2_with (first|((with_reducible refine gate_builtin (b:=.append) (xs:=#[.tmp 58,.tmp 64]) rfl ?_);(try (refine gate_guard (by rfl) ?_;dsimp only));at_builtin;refine Kd.R_append Kd.string (w0:=w) w.heap.size rfl (.tmp 58) (.tmp 64) 35 9 (.string ⟨#[]⟩) 16 rfl Tryz.underlying35 info9 rfl (by decide) (by omega) u3 x3_3 (rdOf ByteArray.empty l0_1 x5_3) [.string (rdOf ByteArray.empty l0_1 x5_3)] (fun _=>True) (fun _=>False) rfl rfl ?aP (fun _ hk=>hk.elim) ?aF ?aO ?aB ?aS ?aL ?_;(case aP=>exact rfl);(case aB=>exact (bs HB.out GE179.out));(case aF=>exact (fun _ _=>trivial));(case aO=>exact (cR' HO_3.out));(case aS=>exact (below_size (bs HB.out GE179.out)));(case aL=>have:=LMc24.out;omega);intro v188 w26 ho hb hg hat;rw [← Ny187.out] at ho;replace BK179:=am (blk_grown (g:=gb179) (o:=.cells #[.slice A0_0 l0_0.length c0_0,.slice (some ad186) l0_1.length c0_1,.slice A0_2 l0_2.length c0_2] 38 (0,0)) (bk BK179.out) hg (Kd.R_ne HO_3.out BK179.out (by decide)));replace HB:=am (hb);have HO189:=am (ho);clear HO_3 ho hb hg hat))
             go_roundg k3
             case measure=>have:=HJ3.out;have:=HK2.out;have:=HK3.out;omega
             case rel=>exact ⟨(y187),(wrap64 (x5_3+1)),xa,H',⟨by have:=HJ3.out;have:=HK2.out;have:=HK3.out;omega⟩,⟨cR' HO189.out⟩,⟨bk BK179.out⟩,⟨bs HB.out GE179.out⟩⟩
            ·exact absurd H (by simp)
           ·exact absurd H (by simp)
          ·replace H:=bd H;obtain ⟨t190,A27,H⟩:=H;have H':=am H;clear H;obtain ⟨hcz28_0,hcz28_1,hcz28_2,hfz28_0,hfz28_1,hfz28_2⟩:=f3 BK179.out;obtain ⟨Ao29,co29,eo29⟩:=Kd.R_slice HO_3.out;subst eo29;go_wp2_with (first|((with_reducible refine gate_callee (f:=285) rfl ?_);refine gL 67 Tryz.func285 #[.slice Ao29 x3_3.length co29] ?_;(with_reducible refine (spec_l13Distinct.calls k3 _ _ x3_3 t190 _ ?side1 ?side2 A27.out).mono ?_);(case side1=>repeat (first|exact (Kd.R_reads' HO_3.out).2.2|(with_reducible refine Kd.C_alloc ?_ _)|(with_reducible refine Kd.C_drewN ?_ _)|(with_reducible refine Kd.C_drew ?_)));(case side2=>exact (Kd.R_reads' HO_3.out).2.1);rintro e w30 ⟨rfl,hb⟩;refine ⟨_,rfl,?_⟩;replace HO_3:=am (Kd.R_below (cR' HO_3.out) hb);replace BK179:=am (blk_below (g:=gb179) (o:=.cells #[.slice A0_0 l0_0.length c0_0,.slice A0_1 l0_1.length c0_1,.slice A0_2 l0_2.length c0_2] 38 (0,0)) (bk BK179.out) hb);replace HB:=am (below_step (bs HB.out GE179.out) hb)))
           go_loopg [6,7] k3 (fun kq v6 v7 w'=>∃ (x6_4:Bool) (x7_4:Int),v6=.bool x6_4∧v7=.int .i64 x7_4∧Aside0 (spec_l13Shape.l2 kq x6_4 x7_4 l0_0 l0_1 l0_2=some r)∧Aside0 (kq≤k3)∧Aside0 (w'.heap[gb179]?=some (.cells #[(.slice A0_0 l0_0.length c0_0),(.slice A0_1 l0_1.length c0_1),(.slice A0_2 l0_2.length c0_2)] 38 (0,0)))∧Aside0 (Below w.heap.size w w'))
           case atStart=>exact ⟨(!t190),(0),xa,xa,H',⟨Nat.le_refl _⟩,⟨bk BK179.out⟩,⟨bs HB.out GE179.out⟩⟩
           case round=>
            clear H';obtain ⟨x6_4,x7_4,rfl,rfl,HA,HK4,BK179,HB⟩:=hrel
            cases gk with
            | zero=>exact absurd HA.out (by simp [spec_l13Shape.l2])
            | succ k4=>
             have H:=HA.out;clear HA;simp only [spec_l13Shape.l2] at H;replace H:=ic H;obtain ⟨c31b0,H⟩|⟨c31b0,H⟩:=H
             ·by_cases c32:x6_4=true
              ·subst c32;rw [if_pos rfl] at H;have H':=am H;clear H;obtain ⟨hcz33_0,hcz33_1,hcz33_2,hfz33_0,hfz33_1,hfz33_2⟩:=f3 BK179.out;go_wp2
               go_roundg k4
               case measure=>have:=HJ3.out;have:=HK2.out;have:=HK3.out;have:=HK4.out;omega
               case rel=>exact ⟨(true),(wrap64 (x7_4+1)),xa,xa,H',⟨by have:=HJ3.out;have:=HK2.out;have:=HK3.out;have:=HK4.out;omega⟩,⟨bk BK179.out⟩,⟨bs HB.out GE179.out⟩⟩
              ·replace c32:=Bool.eq_false_iff.mpr c32;subst c32;rw [if_neg (show ¬ (false=true) by decide)] at H;replace H:=ii H;obtain ⟨c34,H⟩|⟨c34,H⟩:=H
               ·have c34b0:=decide_eq_true c34;clear c34;replace H:=bd H;obtain ⟨t192,A35,H⟩:=H;have H':=am H;clear H;obtain ⟨hcz36_0,hcz36_1,hcz36_2,hfz36_0,hfz36_1,hfz36_2⟩:=f3 BK179.out;obtain ⟨p191,q191,ad191,A191_1,c191_1,A191_2,c191_2,e191,hw191_0,hw191_1,hw191_2,HC191_1,HR191_1,HC191_2,HR191_2⟩:=aT65 HR0_0.out x7_4;cases e191;have hx191_0:=pb HB.out hw191_0;have hx191_1:=pb HB.out hw191_1;have hx191_2:=pb HB.out hw191_2;go_wp2_with (first|(go_at_call 285;(with_reducible refine (spec_l13Distinct.calls k4 _ _ ((rd_T65 l0_0 x7_4).f1) t192 _ ?_ ?_ A35.out).mono ?_);exact kc (Kd.C_below HR191_1.out HB.out);exact HC191_1.out;rintro e w37 ⟨rfl,hb⟩;replace BK179:=am (blk_below (g:=gb179) (o:=.cells #[.slice (some ad191) l0_0.length c0_0,.slice A0_1 l0_1.length c0_1,.slice A0_2 l0_2.length c0_2] 38 (0,0)) (bk BK179.out) hb);replace HB:=am (below_step (bs HB.out GE179.out) hb)))
                go_roundg k4
                case measure=>have:=HJ3.out;have:=HK2.out;have:=HK3.out;have:=HK4.out;omega
                case rel=>exact ⟨(!t192),(wrap64 (x7_4+1)),xa,xa,H',⟨by have:=HJ3.out;have:=HK2.out;have:=HK3.out;have:=HK4.out;omega⟩,⟨bk BK179.out⟩,⟨bs HB.out GE179.out⟩⟩
               ·exact absurd H (by simp)
             ·by_cases c38:x6_4=true
              ·subst c38;rw [if_pos rfl] at H;obtain rfl:=si H;obtain ⟨hcz39_0,hcz39_1,hcz39_2,hfz39_0,hfz39_1,hfz39_2⟩:=f3 BK179.out;go_wp2;go_ret;exact ⟨xe,bs HB.out GE179.out⟩
              ·replace c38:=Bool.eq_false_iff.mpr c38;subst c38;rw [if_neg (show ¬ (false=true) by decide)] at H;obtain rfl:=si H;obtain ⟨hcz40_0,hcz40_1,hcz40_2,hfz40_0,hfz40_1,hfz40_2⟩:=f3 BK179.out;go_wp2;go_ret;exact ⟨xe,bs HB.out GE179.out⟩
 ·replace c3:=Bool.eq_false_iff.mpr c3;subst c3;rw [if_neg (show ¬ (false=true) by decide)] at H;obtain rfl:=si H;go_enter Tryz.func188,Tryz.ntmps188;go_wp2_with (first|((with_reducible refine gate_dst (N:=1) rfl ?_);(try (refine gate_guard (by rfl) ?_;dsimp only));refine box_event ?hg (N:=1) ?hd (cs:=#[.slice A0_0 l0_0.length c0_0,.slice A0_1 l0_1.length c0_1,.slice A0_2 l0_2.length c0_2]) (t:=38) ?hr ?_;(case hd=>rfl);(case hg=>rfl);(case hr=>first|(go_simp;done)|(go_simp;rfl));intro gb179 hg w41 hbox hb;have BK179:=am (hbox);have GE179:=am ((by rw [hg];exact (below_size (bl HB.out)):w.heap.size≤gb179));replace HB:=am (below_step (bl HB.out) hb);clear hb hbox hg;obtain ⟨hcz42_0,hcz42_1,hcz42_2,hfz42_0,hfz42_1,hfz42_2⟩:=f3 BK179.out)|((with_reducible refine gate_callee (f:=284) rfl ?_);refine gL 9 Tryz.func284 #[.agg #[.slice A0_0 l0_0.length c0_0,.slice A0_1 l0_1.length c0_1,.slice A0_2 l0_2.length c0_2]] ?_;(with_reducible refine (spec_l13Formed.calls k _ _ l0_0 _ _ l0_1 _ _ l0_2 false _ ?_ ?_ ?_ ?_ ?_ ?_ A2.out).mono ?_);exact kc (Kd.C_below HR0_0.out HB.out);exact HC0_0.out;exact kc (Kd.C_below HR0_1.out HB.out);exact HC0_1.out;exact kc (Kd.C_below HR0_2.out HB.out);exact HC0_2.out;rintro e w43 ⟨rfl,hb⟩;refine ⟨_,rfl,?_⟩;replace BK179:=am (blk_below (g:=gb179) (o:=.cells #[.slice A0_0 l0_0.length c0_0,.slice A0_1 l0_1.length c0_1,.slice A0_2 l0_2.length c0_2] 38 (0,0)) (bk BK179.out) hb);replace HB:=am (below_step (bs HB.out GE179.out) hb)));go_ret;exact ⟨xe,bs HB.out GE179.out⟩
end Go.Proofs.YtbahacapnaohcaaGreatDoor.PB
