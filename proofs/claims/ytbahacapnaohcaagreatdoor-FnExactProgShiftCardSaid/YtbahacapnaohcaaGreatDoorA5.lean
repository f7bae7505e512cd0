import Derived.Test.YtbahacapnaohcaaGreatDoorA1
set_option linter.unusedVariables false
set_option linter.unusedSimpArgs false
namespace Go.Proofs.YtbahacapnaohcaaGreatDoor.PB
open Go.RowKit Go.Proofs.YtbahacapnaohcaaGreatDoorW.PrintWords Go.Proofs.YtbahacapnaohcaaGreatDoorW.PrintLast Go.Proofs.YtbahacapnaohcaaGreatDoorW.PrintMore
def spec_l14Copy.l0:Nat→List ByteArray→List ByteArray→Int→Option (List ByteArray)
 | 0,_,_,_=>none
 | k+1,x0,x3,x4=>if x4<(x0.length:Int) then (if 0≤x4 then (if x3.length<8796093022208 then (spec_l14Copy.l0 k x0 (x3++[rdOf ByteArray.empty x0 x4]) (wrap64 (x4+1))) else (none)) else (none)) else (some x3)
def spec_l14Copy.f (k:Nat) (l0:List ByteArray):Option (List ByteArray):=spec_l14Copy.l0 k l0 ([]:List ByteArray) 0
set_option maxHeartbeats 8000000 in
set_option maxRecDepth 100000 in
theorem spec_l14Copy.calls (k:Nat) (A0:Option Addr) (c0:Nat) (l0:List ByteArray) (r:List ByteArray) (w:World) (hr0:Kd.C Kd.string w A0 l0.length l0) (hc0:l0.length≤c0) (h:spec_l14Copy.f k l0=some r) :
 Calls Tryz.prog 117 #[.slice A0 l0.length c0] w fun e w'=>∃ v0_:Value,e=.returned (v0_)∧Kd.R Kd.string 9 w' w.heap.size (fun _=>True) v0_ r∧Below w.heap.size w w':=by
 obtain ⟨HR0,HC0⟩:=hd2 hr0 hc0;clear hr0 hc0;have HB:=am (Below.refl w.heap.size w);have H:(spec_l14Copy.l0 k l0 ([]:List ByteArray) 0)=some r:=h;clear h;have H':=am H;clear H;go_enter Tryz.func117,Tryz.ntmps117;go_wp2
 go_loopg [3,4] k (fun kq v3 v4 w'=>∃ (x3_1:List ByteArray) (x4_1:Int),v4=.int .i64 x4_1∧Aside0 (spec_l14Copy.l0 kq l0 x3_1 x4_1=some r)∧Aside0 (kq≤k)∧Aside0 (Kd.R Kd.string 9 w' w.heap.size (fun _=>True) v3 x3_1)∧Aside0 (Below w.heap.size w w'))
 case atStart=>exact ⟨(([]:List ByteArray)),(0),xa,H',⟨Nat.le_refl _⟩,⟨by first|exact Kd.R_nil _ _ _ _ _|exact Kd.N_nil _ _ _ _ _|exact Kd.V_nil _ _ _ _ _|exact Kd.Q_nil _ _ _ _ _|exact Kd.S_nil _ _ _ _ _⟩,⟨bl HB.out⟩⟩
 case round=>
  clear H';obtain ⟨x3_1,x4_1,rfl,HA,HK1,HO_3,HB⟩:=hrel
  cases gk with
  | zero=>exact absurd HA.out (by simp [spec_l14Copy.l0])
  | succ k1=>
   have H:=HA.out;clear HA;simp only [spec_l14Copy.l0] at H;replace H:=ic H;obtain ⟨c2b0,H⟩|⟨c2b0,H⟩:=H
   ·replace H:=ii H;obtain ⟨c3,H⟩|⟨c3,H⟩:=H
    ·have c3b0:=decide_eq_true c3;clear c3;replace H:=ii H;obtain ⟨c4,H⟩|⟨c4,H⟩:=H
     ·have LMc4:=am c4;clear c4;obtain ⟨y205,hy205⟩:∃ y_:List ByteArray,y_=(x3_1++[rdOf ByteArray.empty l0 x4_1]):=⟨_,rfl⟩;replace H:(spec_l14Copy.l0 k1 l0 y205 (wrap64 (x4_1+1)))=some r:=by first|(rw [hy205];with_reducible exact H)|(have H2_:=(Option.bind_some _ _).symm.trans H;rw [hy205];with_reducible exact H2_)|(have H2_:=(Option.bind_some _ _).symm.trans H;with_reducible exact H2_)|with_reducible exact H|(rw [hy205];exact H)|exact H
      have Ny205:=am hy205;clear hy205;have H':=am H;clear H;have p204:0≤(x4_1:Int):=od;have q204:x4_1<(l0.length:Int):=od;obtain ⟨ad204,e204,hx204_0⟩:=Kd.at_string HR0.out x4_1 p204 q204;cases e204;replace hx204_0:=(pb HB.out hx204_0);replace p204:=eq_true p204;replace q204:=eq_true q204;go_wp2_with (first|((with_reducible refine gate_builtin (b:=.append) (xs:=#[.tmp 11,.tmp 16]) rfl ?_);at_builtin;refine Kd.R_append Kd.string (w0:=w) w.heap.size rfl (.tmp 11) (.tmp 16) 35 9 (.string ⟨#[]⟩) 16 rfl Tryz.underlying35 info9 rfl (by decide) (by omega) u3 x3_1 (rdOf ByteArray.empty l0 x4_1) [.string (rdOf ByteArray.empty l0 x4_1)] (fun _=>True) (fun _=>False) rfl rfl ?aP (fun _ hk=>hk.elim) ?aF ?aO ?aB ?aS ?aL ?_;(case aP=>exact rfl);(case aB=>exact (bl HB.out));(case aF=>exact (fun _ _=>trivial));(case aO=>exact (cR' HO_3.out));(case aS=>exact (below_size (bl HB.out)));(case aL=>have:=LMc4.out;omega);intro v206 w5 ho hb hg hat;rw [← Ny205.out] at ho;replace HB:=am (hb);have HO207:=am (ho);clear HO_3 ho hb hg hat))
      go_roundg k1
      case measure=>have:=HK1.out;omega
      case rel=>exact ⟨(y205),(wrap64 (x4_1+1)),xa,H',⟨by have:=HK1.out;omega⟩,⟨cR' HO207.out⟩,⟨bl HB.out⟩⟩
     ·exact absurd H (by simp)
    ·exact absurd H (by simp)
   ·obtain rfl:=si H;go_wp2;go_ret;exact ⟨_,xe,by (with_reducible repeat (first|apply Kd.R_alloc|apply Kd.R_drewN|apply Kd.R_drew));exact HO_3.out,bl HB.out⟩
def spec_l14Same.l0:Nat→Int→List (S102)→List (S102)→Option ((List (S102)))
 | 0,_,_,_=>none
 | k+1,x4,x209000,x211000=>if x4<(x209000.length:Int) then (if 0≤x4 then (if x211000.length<4398046511104 then (spec_l14Same.l0 k (wrap64 (x4+1)) x209000 (x211000++[(⟨(rd_T102 x209000 x4).f0,(rd_T102 x209000 x4).f1,(rd_T102 x209000 x4).f2⟩:S102)])) else (none)) else (none)) else (some x211000)
def spec_l14Same.f (k:Nat) (l0_0:List (S102)):Option ((List (S102))):=spec_l14Same.l0 k 0 l0_0 ([]:List (S102))
def spec_l14Same.T5:Bool × List (List Nat × List Nat):=(true,[([],[]),([0],[0]),([],[]),([2],[2]),([],[]),([3,4],[3,4]),([5],[5]),([6],[6]),([1,7],[1,7]),([0,1,2,3,4,5,6,7,8],[]),([9,8,8,0,1,2,3,4,5,6,7,8],[8,9])])
def spec_l14Same.B5:List Nat:=[0,1,0,4,0,28,60,124,255,511,1023]
theorem spec_l14Same.tab5:rtab .any (opsOf Tryz.f190 5)=spec_l14Same.T5:=by kernel_rfl
theorem spec_l14Same.bits5:waitsOk spec_l14Same.T5.2 spec_l14Same.B5=true:=by kernel_rfl
set_option maxHeartbeats 8000000 in
set_option maxRecDepth 100000 in
theorem spec_l14Same.calls (k:Nat) (A0_0:Option Addr) (c0_0:Nat) (l0_0:List (S102)) (r:List (S102)) (w:World) (hr0_0:Kd.C k102 w A0_0 l0_0.length l0_0) (hc0_0:l0_0.length≤c0_0) (h:spec_l14Same.f k l0_0=some r) :
 Calls Tryz.prog 190 #[.agg #[.slice A0_0 l0_0.length c0_0]] w fun e w'=>∃ v0_:Value,e=.returned (.agg #[v0_])∧Kd.R k102 102 w' w.heap.size (fun _=>True) v0_ r∧Below w.heap.size w w':=by
 have hu25:=Tryz.underlying25;have hu102:=Tryz.underlying102;obtain ⟨HR0_0,HC0_0⟩:=hd2 hr0_0 hc0_0;clear hr0_0 hc0_0;have HB:=am (Below.refl w.heap.size w);have H:(spec_l14Same.l0 k 0 l0_0 ([]:List (S102)))=some r:=h;clear h;have H':=am H;clear H;go_enter Tryz.func190,Tryz.ntmps190;go_wp2_with (first|(refine bx 1 (#[.slice A0_0 l0_0.length c0_0]) 25 ?_;intro gb208 hg w2 hbox hb;have BK208:=am (hbox);have GE208:=am ((by rw [hg];exact (below_size (bl HB.out)):w.heap.size≤gb208));replace HB:=am (below_step (bl HB.out) hb);clear hb hbox hg)|(refine bx 2 (#[.slice none 0 0]) 25 ?_;intro gb209 hg w3 hbox hb;have BK209:=am (hbox);have GE209:=am ((by rw [hg];exact (below_size (bs HB.out GE208.out)):w.heap.size≤gb209));replace HB:=am (below_step (bs HB.out GE208.out) hb);have NB208_209:=am ((by rw [hg];exact Nat.ne_of_lt (blk_lt (g:=gb208) (o:=.cells #[.slice A0_0 l0_0.length c0_0] 25 (0,0)) (bk BK208.out)):gb208≠gb209));have NB209_208:=am ((by rw [hg];exact Nat.ne_of_gt (blk_lt (g:=gb208) (o:=.cells #[.slice A0_0 l0_0.length c0_0] 25 (0,0)) (bk BK208.out)):gb209≠gb208));replace BK208:=am (blk_below (g:=gb208) (o:=.cells #[.slice A0_0 l0_0.length c0_0] 25 (0,0)) (bk BK208.out) hb);clear hb hbox hg)|(refine bx 3 (#[.slice none 0 0]) 25 ?_;intro gb210 hg w4 hbox hb;have BK210:=am (hbox);have GE210:=am ((by rw [hg];exact (below_size (bp HB.out GE208.out GE209.out)):w.heap.size≤gb210));replace HB:=am (below_step (bp HB.out GE208.out GE209.out) hb);have NB208_210:=am ((by rw [hg];exact Nat.ne_of_lt (blk_lt (g:=gb208) (o:=.cells #[.slice A0_0 l0_0.length c0_0] 25 (0,0)) (bk BK208.out)):gb208≠gb210));have NB210_208:=am ((by rw [hg];exact Nat.ne_of_gt (blk_lt (g:=gb208) (o:=.cells #[.slice A0_0 l0_0.length c0_0] 25 (0,0)) (bk BK208.out)):gb210≠gb208));replace BK208:=am (blk_below (g:=gb208) (o:=.cells #[.slice A0_0 l0_0.length c0_0] 25 (0,0)) (bk BK208.out) hb);have NB209_210:=am ((by rw [hg];exact Nat.ne_of_lt (blk_lt (g:=gb209) (o:=.cells #[.slice none 0 0] 25 (0,0)) (bk BK209.out)):gb209≠gb210));have NB210_209:=am ((by rw [hg];exact Nat.ne_of_gt (blk_lt (g:=gb209) (o:=.cells #[.slice none 0 0] 25 (0,0)) (bk BK209.out)):gb210≠gb209));replace BK209:=am (blk_below (g:=gb209) (o:=.cells #[.slice none 0 0] 25 (0,0)) (bk BK209.out) hb);clear hb hbox hg))
 go_loopg [4] k (fun kq v4 w'=>∃ (x4_1:Int) (x211000_1:List (S102)) (u211000:Value),v4=.int .i64 x4_1∧Aside0 (spec_l14Same.l0 kq x4_1 l0_0 x211000_1=some r)∧Aside0 (kq≤k)∧Aside0 (Kd.R k102 102 w' w.heap.size (fun _=>True) u211000 x211000_1)∧Aside0 (w'.heap[gb208]?=some (.cells #[(.slice A0_0 l0_0.length c0_0)] 25 (0,0)))∧Aside0 (w'.heap[gb209]?=some (.cells #[(.slice none 0 0)] 25 (0,0)))∧Aside0 (w'.heap[gb210]?=some (.cells #[u211000] 25 (0,0)))∧Aside0 (Below w.heap.size w w'))
 case atStart=>exact ⟨(0),(([]:List (S102))),(.slice none 0 0),xa,H',⟨Nat.le_refl _⟩,⟨by first|exact Kd.R_nil _ _ _ _ _|exact Kd.N_nil _ _ _ _ _|exact Kd.V_nil _ _ _ _ _|exact Kd.Q_nil _ _ _ _ _|exact Kd.S_nil _ _ _ _ _⟩,⟨bk BK208.out⟩,⟨bk BK209.out⟩,⟨bk BK210.out⟩,⟨bq HB.out GE208.out GE209.out GE210.out⟩⟩
 case round=>
  clear H';obtain ⟨x4_1,x211000_1,u211000,rfl,HA,HK1,HO_211000,BK208,BK209,BK210,HB⟩:=hrel
  cases gk with
  | zero=>exact absurd HA.out (by simp [spec_l14Same.l0])
  | succ k1=>
   have H:=HA.out;clear HA;simp only [spec_l14Same.l0] at H;replace H:=ic H;obtain ⟨c5b0,H⟩|⟨c5b0,H⟩:=H
   ·replace H:=ii H;obtain ⟨c6,H⟩|⟨c6,H⟩:=H
    ·have c6b0:=decide_eq_true c6;clear c6;replace H:=ii H;obtain ⟨c7,H⟩|⟨c7,H⟩:=H
     ·have LMc7:=am c7;clear c7;obtain ⟨y212,hy212⟩:∃ y_:List (S102),y_=(x211000_1++[(⟨(rd_T102 l0_0 x4_1).f0,(rd_T102 l0_0 x4_1).f1,(rd_T102 l0_0 x4_1).f2⟩:S102)]):=⟨_,rfl⟩;replace H:(spec_l14Same.l0 k1 (wrap64 (x4_1+1)) l0_0 y212)=some r:=by first|(rw [hy212];with_reducible exact H)|(have H2_:=(Option.bind_some _ _).symm.trans H;rw [hy212];with_reducible exact H2_)|(have H2_:=(Option.bind_some _ _).symm.trans H;with_reducible exact H2_)|with_reducible exact H|(rw [hy212];exact H)|exact H
      have Ny212:=am hy212;clear hy212;have H':=am H;clear H;have hnb8:=NB208_209.out;have hnc8:=NB209_208.out;have hnb9:=NB208_210.out;have hnc9:=NB210_208.out;obtain ⟨hcz10_0,hfz10_0⟩:=f1 BK208.out
      try go_wp2
      replace HO_211000:=am (Kd.R_drew HO_211000.out);replace BK208:=am (blk_drew BK208.out);replace BK209:=am (blk_drew BK209.out);replace BK210:=am (blk_drew BK210.out);replace HB:=am (below_drew1 HB.out);obtain ⟨p211,q211,ad211,e211,hw211_0,hw211_1,hw211_2⟩:=aT102 HR0_0.out x4_1;cases e211;have hx211_0:=pb HB.out hw211_0;have hx211_1:=pb HB.out hw211_1;have hx211_2:=pb HB.out hw211_2;refine start_ (n:=11) (S:=fun w'=>w'.cell? ⟨gb210,0,none⟩=some (u211000)∧w'.cell? ⟨gb208,0,none⟩=some (.slice (some ad211) l0_0.length c0_0)∧w'.cell? (ad211.add ((x4_1).toNat * 3))=some (.int .i64 ((rd_T102 l0_0 x4_1).f0))∧w'.cell? ⟨(ad211.add ((x4_1).toNat * 3)).block,(ad211.add ((x4_1).toNat * 3)).off+1,none⟩=some (.int .i64 ((rd_T102 l0_0 x4_1).f1))∧w'.cell? ⟨(ad211.add ((x4_1).toNat * 3)).block,(ad211.add ((x4_1).toNat * 3)).off+2,none⟩=some (.string ((rd_T102 l0_0 x4_1).f2))) (ds:=[10]) #[false,false,false,false,false,false,false,false,false,false,false] (by kernel_rfl) rfl rfl ⟨zc BK210.out 0,zc BK208.out 0,(pb HB.out hw211_0),(pb HB.out hw211_1),(pb HB.out hw211_2)⟩ (fun hHeld=>?_);refine with_tabW spec_l14Same.tab5 spec_l14Same.bits5 (fun HT_ HW_=>?_);generalize wr.drew=w11 at HO_211000 BK208 BK209 BK210 HB hx211_0 hx211_1 hx211_2 hHeld ⊢;refine pv 0 12 HT_.out ?_;refine pv 2 14 HT_.out ?_;refine pv 4 16 HT_.out ?_;refine tv 1 13 HT_.out HW_.out hHeld ?_;refine tv 3 15 HT_.out HW_.out hHeld ?_;refine pv 5 17 HT_.out ?_;refine tv 6 18 HT_.out HW_.out hHeld ?_;refine o1 7 19 HT_.out fun K hK=>?_
      refine value_ (w1:=?_) (v:=?_) (by rfl) rfl ?_ ?_;rotate_left 2
      ·go_simp
       constructor
       ·rfl
       ·rfl
      refine hK.out _ _ ⟨zc (blk_alloc BK210.out _) 0,zc (blk_alloc BK208.out _) 0,(World.cell?_alloc_lt _ _ _ (World.block_lt_of_cell? _ _ ((pb HB.out hw211_0)))).trans ((pb HB.out hw211_0)),(World.cell?_alloc_lt _ _ _ (World.block_lt_of_cell? _ _ ((pb HB.out hw211_1)))).trans ((pb HB.out hw211_1)),(World.cell?_alloc_lt _ _ _ (World.block_lt_of_cell? _ _ ((pb HB.out hw211_2)))).trans ((pb HB.out hw211_2))⟩ (fun hHeld=>?_);clear hK K;refine nr ?_;refine o1 8 20 HT_.out fun K hK=>?_
      refine Kd.R_append_step k102 (w0:=w) w.heap.size (by rfl) (.tmp 13) (.tmp 19) 23 102 (.agg #[(.int .i64 0),(.int .i64 0),(.string ⟨#[]⟩)]) 32 rfl Tryz.underlying23 info102 rfl (by decide) (by omega) u211000 x211000_1 (⟨(rd_T102 l0_0 x4_1).f0,(rd_T102 l0_0 x4_1).f1,(rd_T102 l0_0 x4_1).f2⟩:S102) [.int .i64 ((rd_T102 l0_0 x4_1).f0),.int .i64 ((rd_T102 l0_0 x4_1).f1),.string ((rd_T102 l0_0 x4_1).f2)] (fun _=>True) (fun _=>False) rfl rfl ?aP (fun _ hk=>hk.elim) ?aF ?aO ?aB ?aS ?aL ?_
      (case aP=>exact k102_mkM _ _ _ (⟨(rd_T102 l0_0 x4_1).f0,(rd_T102 l0_0 x4_1).f1,(rd_T102 l0_0 x4_1).f2⟩:S102))
      (case aB=>exact (bq HB.out GE208.out GE209.out GE210.out))
      (case aF=>exact (fun _ _=>trivial))
      (case aO=>exact (cR' HO_211000.out))
      (case aS=>exact (below_size (bq HB.out GE208.out GE209.out GE210.out)))
      (case aL=>have:=LMc7.out;omega)
      intro v213 w12 ho hb hg hat;rw [← Ny212.out] at ho;replace BK208:=am (blk_grown (g:=gb208) (o:=.cells #[.slice (some ad211) l0_0.length c0_0] 25 (0,0)) (bk BK208.out) hg (Kd.R_ne HO_211000.out BK208.out (by decide)));replace BK209:=am (blk_grown (g:=gb209) (o:=.cells #[.slice none 0 0] 25 (0,0)) (bk BK209.out) hg (Kd.R_ne HO_211000.out BK209.out (by decide)));replace BK210:=am (blk_grown (g:=gb210) (o:=.cells #[u211000] 25 (0,0)) (bk BK210.out) hg (Kd.R_ne HO_211000.out BK210.out (by decide)));replace HB:=am (hb);have HO214:=am (ho);clear HO_211000;clear ho hb hg hat;obtain ⟨Ao13,co13,eo13⟩:=Kd.R_slice HO214.out
      (first|subst eo13|(injection eo13 with f1_ f2_ f3_;have f4_:=f1_.symm;have f5_:=f3_.symm;clear f1_ f2_ f3_;subst f4_;subst f5_))
      refine hK.out _ _ ⟨zc BK210.out 0,zc BK208.out 0,(pb HB.out hw211_0),(pb HB.out hw211_1),(pb HB.out hw211_2)⟩ (fun hHeld=>?_);clear hK K;refine nr ?_;refine pv 9 21 HT_.out ?_;refine last_ (i:=10) (N:=none) #[true,true,true,true,true,true,true,true,true,true,true] rfl rfl (one_of HT_.out (by kernel_rfl)) (by decide) (fun K hK=>?_);have hs14:w12.cell? ⟨gb210,0,none⟩=some (u211000):=(blk_cell BK210.out 0).trans rfl;have hfs14:=blk_frozen BK210.out 0;have hns14_0:=NB208_210.out;have hns14_1:=NB209_210.out;have hms14_0:=NB210_208.out;have hms14_1:=NB210_209.out;refine skip_ (w1:=?_) (by rfl) rfl ?_ ?_;rotate_left
      ·go_simp
       rfl
      refine hK.out _ _ ?_;clear hK K;refine done_ (done_of HT_.out (by kernel_rfl)) ?_
      try go_wp2
      go_roundg k1
      case measure=>have:=HK1.out;omega
      case rel=>exact ⟨(wrap64 (x4_1+1)),(y212),(.slice Ao13 y212.length co13),xa,H',⟨by have:=HK1.out;omega⟩,⟨by (with_reducible repeat (first|apply Kd.R_alloc|apply Kd.R_drewN|apply Kd.R_drew));exact Kd.R_mono (Kd.R_far (p:=⟨gb210,0,none⟩) (Kd.R_types HO214.out BK210.out (by decide)) (fun _ hk=>hk.2) (.slice Ao13 y212.length co13)) (fun _ hk=>trivial)⟩,⟨bf NB208_210.out BK208.out⟩,⟨bf NB209_210.out BK209.out⟩,⟨by (with_reducible repeat (first|refine blk_drewN ?_ _|refine blk_drew ?_|refine blk_alloc ?_ _));refine blk_put (cs:=#[u211000]) ?_ 0 _ rfl;(with_reducible repeat (first|refine blk_drewN ?_ _|refine blk_drew ?_|refine blk_alloc ?_ _));exact BK210.out⟩,⟨bq HB.out GE208.out GE209.out GE210.out⟩⟩
     ·exact absurd H (by simp)
    ·exact absurd H (by simp)
   ·obtain rfl:=si H;have hnb15:=NB208_209.out;have hnc15:=NB209_208.out;have hnb16:=NB208_210.out;have hnc16:=NB210_208.out;obtain ⟨hcz17_0,hfz17_0⟩:=f1 BK208.out;have hnb18:=NB210_209.out;have hnc18:=NB209_210.out;obtain ⟨hcz19_0,hfz19_0⟩:=f1 BK210.out;obtain ⟨Ao20,co20,eo20⟩:=Kd.R_slice HO_211000.out;subst eo20;obtain ⟨hcz21_0,hfz21_0⟩:=f1 BK209.out;go_wp2;refine bodyPost_ret (results_cell_row rfl _ _ gb209 25 #[.slice Ao20 x211000_1.length co20] (0,0) _ rfl (by (with_reducible repeat (first|refine blk_drewN ?_ _|refine blk_drew ?_|refine blk_alloc ?_ _));refine blk_put (cs:=#[.slice none 0 0]) ?_ 0 _ rfl;(with_reducible repeat (first|refine blk_drewN ?_ _|refine blk_drew ?_|refine blk_alloc ?_ _));exact BK209.out) Tryz.underlying25 rfl (by kernel_rfl)) rfl ?_;exact ⟨_,xe,by (with_reducible repeat (first|apply Kd.R_alloc|apply Kd.R_drewN|apply Kd.R_drew));exact Kd.R_mono (Kd.R_far (p:=⟨gb209,0,none⟩) (Kd.R_types HO_211000.out BK209.out (by decide)) (fun _ hk=>hk.2) (.slice Ao20 x211000_1.length co20)) (fun _ hk=>trivial),bq HB.out GE208.out GE209.out GE210.out⟩
end Go.Proofs.YtbahacapnaohcaaGreatDoor.PB
