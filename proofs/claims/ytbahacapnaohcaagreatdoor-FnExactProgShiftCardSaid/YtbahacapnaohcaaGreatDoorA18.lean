import Derived.Test.YtbahacapnaohcaaGreatDoorA16
set_option linter.unusedVariables false
set_option linter.unusedSimpArgs false
namespace Go.Proofs.YtbahacapnaohcaaGreatDoor.PB
open Go.RowKit Go.Proofs.YtbahacapnaohcaaGreatDoorW.PrintWords Go.Proofs.YtbahacapnaohcaaGreatDoorW.PrintLast Go.Proofs.YtbahacapnaohcaaGreatDoorW.PrintMore
theorem info3:(Tryz.prog.info? 3).map (fun i=>(i.zero,i.size,i.bytes))=some (some (.int .i64 0),1,8):=by kernel_rfl
def namesD (x:S65):List ByteArray:=tidyB (namesRaw x.f2.f0)
def stepU (l0:List S65) (s:List Bool × List Int) (nm:ByteArray):List Bool × List Int:=
 if 0≤defIdx l0 nm∧s.1.getD (defIdx l0 nm).toNat true=false then (s.1.set (defIdx l0 nm).toNat true,s.2++[defIdx l0 nm]) else s
def usesF (l0:List S65):Nat→List Bool→List Int→List Bool
 | 0,out,_=>out
 | _+1,out,[]=>out
 | f+1,out,t :: r=>usesF l0 f ((namesD (rd_T65 l0 t)).foldl (stepU l0) (out,r)).1 ((namesD (rd_T65 l0 t)).foldl (stepU l0) (out,r)).2
def falses (l:List Bool):Nat:=l.countP (fun b=>!b)
def usesP (l0:List S65) (k:Int):List Bool:=usesF l0 (l0.length+1) (List.replicate l0.length false) [k]
structure InvU (n:Nat) (out:List Bool) (todo:List Int) (f:Nat):Prop where
 len:out.length=n
 low:∀ t,t∈todo→0≤t
 high:∀ t,t∈todo→t<n
 fuel:falses out+todo.length≤f
 top:f≤n+1
theorem falses_set (l:List Bool) (k:Nat) (h:l.getD k true=false):falses (l.set k true)+1=falses l:=by
 induction l generalizing k with
 | nil=>simp at h
 | cons a r ih=>
  cases k with
  | zero=>
   have:a=false:=by simpa using h
   subst this
   simp [falses,List.countP_cons]
  | succ k=>
   have:=ih k (by simpa using h)
   unfold falses at this ⊢
   simp only [List.set_cons_succ,List.countP_cons];omega
theorem falses_len (l:List Bool):falses l≤l.length:=List.countP_le_length
theorem InvU.step {l0:List S65} {out:List Bool} {todo:List Int} {f:Nat} (h:InvU l0.length out todo f) (nm:ByteArray):InvU l0.length (stepU l0 (out,todo) nm).1 (stepU l0 (out,todo) nm).2 f:=by
 unfold stepU
 by_cases hc:0≤defIdx l0 nm∧out.getD (defIdx l0 nm).toNat true=false
 ·rw [if_pos hc];have hr:=defIdx_range l0 nm;refine ⟨by simp [h.len],fun t ht=>?_,fun t ht=>?_,?_,h.top⟩
  ·rcases List.mem_append.1 ht with h1|h1
   ·exact h.low t h1
   ·simp at h1;omega
  ·rcases List.mem_append.1 ht with h1|h1
   ·exact h.high t h1
   ·simp at h1;omega
  ·have:=falses_set out _ hc.2;have:=h.fuel;simp only [List.length_append,List.length_singleton];omega
 ·rw [if_neg hc];exact h
theorem C_keep {w w1:World} {A:Option Addr} {n:Nat} {xs:List ByteArray} (h:Kd.C Kd.string w A n xs) (hk:∀ a,A=some a→w1.heap[a.block]?=w.heap[a.block]?):Kd.C Kd.string w1 A n xs:=by
 obtain ⟨h1,h2,h3⟩:=h;refine ⟨h1,h2,fun h0=>?_⟩;obtain ⟨ad,e,hc⟩:=h3 h0;refine ⟨ad,e,fun j p hp=>?_⟩;obtain ⟨c,hc1,hc2,hc3⟩:=hc j p hp;exact ⟨c,hc1,hc2,fun i u hu=>(World.cell?_of_block (w:=w) (w':=w1) (a:=ad.add (j * Kd.string.sz+i)) (by rw [show (ad.add (j * Kd.string.sz+i)).block=ad.block by unfold Addr.add;split <;> rfl];exact hk ad e)).trans (hc3 i u hu)⟩
def Typed9 (w:World) (A:Option Addr):Prop:=∀ a,A=some a→∃ cur,w.heap[a.block]?=some (.cells cur 9 (0,0))
theorem Typed9.keep {w w1:World} {A:Option Addr} (h:Typed9 w A) (hk:∀ a,A=some a→w1.heap[a.block]?=w.heap[a.block]?):Typed9 w1 A:=fun a ha=>by rw [hk a ha];exact h a ha
theorem Typed9.below {w w1:World} {A:Option Addr} (h:Typed9 w A) (hb:Below w.heap.size w w1):∀ a,A=some a→w1.heap[a.block]?=w.heap[a.block]?:=fun a ha=>by
 obtain ⟨cur,hc⟩:=h a ha;exact hb.block a.block (Array.getElem?_eq_some_iff.1 hc).1
theorem Typed9.other {w w1:World} {A:Option Addr} {row:Option Nat} (h:Typed9 w A) (t:Nat) (ht:t≠9) (hg:w.grownBy w1 row) (hr:∀ k,row=some k→∃ cells,w.heap[k]?=some (.cells cells t (0,0))):∀ a,A=some a→w1.heap[a.block]?=w.heap[a.block]?:=fun a ha=>by
 obtain ⟨cur,hc⟩:=h a ha;refine hg.block a.block (Array.getElem?_eq_some_iff.1 hc).1 (fun e=>?_);obtain ⟨cells,h2⟩:=hr a.block e.symm;rw [hc] at h2;injection h2 with h2
 injection h2 with _ h3 _
 exact ht h3.symm
set_option maxHeartbeats 8000000 in
set_option maxRecDepth 100000 in
theorem uses_calls (A0:Option Addr) (c0:Nat) (l0:List S65) (A1:Option Addr) (c1:Nat) (l1:List ByteArray) (A2:Option Addr) (c2:Nat) (l2:List S63) (k:Int) (hk0:0≤k) (hk1:k<l0.length) (w:World) (hP:PRd w A0 c0 l0 A1 c1 l1 A2 c2 l2) (hn:l0.length<4398046511104) (hd:∀ x,x∈l0→x.f2.f0.length<4398046511104) :
 Calls Tryz.prog 201 #[.agg #[.slice A0 l0.length c0,.slice A1 l1.length c1,.slice A2 l2.length c2],.int .i64 k] w fun e w'=>∃ A c,e=.returned (.slice A l0.length c)∧l0.length≤c∧(usesP l0 k).length=l0.length∧Kd.C Kd.bool w' A l0.length (usesP l0 k)∧Below w.heap.size w w':=by
 have HP:=am hP;have HN:=am hn;have HDL:=am hd;have n0:l0.length≤9223372036854775807:=hP.r0.2.1;clear hP hd;have hu38:=Tryz.underlying38;have hu65:=Tryz.underlying65;have hu25:=Tryz.underlying25;have HQ0:=am (show InvU l0.length (List.replicate l0.length false) [k] (l0.length+1) from ⟨by simp,by simpa using hk0,by simpa using hk1,by have:=falses_len (List.replicate l0.length false);simp at this ⊢;omega,Nat.le_refl _⟩);go_enter Tryz.func201,Tryz.ntmps201;go_wp2_with (first|(refine bx 2 (#[.slice A0 l0.length c0,.slice A1 l1.length c1,.slice A2 l2.length c2]) 38 ?_;intro gb hgb W1 hbox hb;have hb0:W1.cell? ⟨gb,0,none⟩=some (.slice A0 l0.length c0):=(blk_cell hbox 0).trans rfl;have hb1:W1.cell? ⟨gb,1,none⟩=some (.slice A1 l1.length c1):=(blk_cell hbox 1).trans rfl;have hb2:W1.cell? ⟨gb,2,none⟩=some (.slice A2 l2.length c2):=(blk_cell hbox 2).trans rfl;have HBW:=am hb;have HP1:=am (HP.out.below HBW.out);clear hb hbox hgb)|((with_reducible refine gate_dst (N:=14) rfl ?_);refine Kd.R_make Kd.bool (w0:=W1) W1.heap.size 4 rfl (N:=14) rfl 174 _ _ rfl (l0.length:Int) rfl rfl Tryz.underlying174 (.bool false) 1 info4 rfl (by decide) (by omega) false (ok:=fun _=>True) (okp:=fun _=>True) rfl (fun _ hk=>hk) trivial (by omega) (by omega) (Below.refl _ _) (Nat.le_refl _) ?_;intro v5 w2 ho hb hg hnew;have HO:=am ho;have HB:=am hb;clear ho hb hg hnew)|((with_reducible refine gate_dst (N:=16) rfl ?_);refine Kd.R_lit (Kd.int .i64) (w0:=W1) W1.heap.size 3 ?hg (N:=16) ?hd (xs:=([k]:List Int)) (inner:=[.int .i64 k]) (ok:=fun _=>True) (okp:=fun _=>True) ?hr ?hp (fun _ hk=>hk) trivial HB.out HB.out.size (by simp) ?_;(case hd=>rfl);(case hg=>rfl);(case hr=>first|(go_simp;done)|(go_simp;rfl));(case hp=>exact (Reps.one (show Kd.M (Kd.int .i64) _ _ _ k [.int .i64 k] from rfl) (Reps.none _ _)));intro v6 w3 ho hb hg hnew;have HQ:=am (Kd.Q_of_R ho);have HO2:=am (Kd.R_grown HO.out hg (fun _ _=>by simp));have HB2:=am hb;clear ho hb hg hnew HO HB));rw [show ((l0.length:Int)).toNat=l0.length by omega] at HO2;obtain ⟨g,cap,hv5,hgb,hgl,hgt⟩:=Kd.R_form HO2.out (by rw [List.length_replicate];omega);rw [List.length_replicate] at hv5;subst hv5;clear hgl hgt hn hk0 hk1
 go_loopg [6] (l0.length+1) (fun kq v6 wr=>∃ (out:List Bool) (todo:List Int),Aside0 (InvU l0.length out todo kq)∧Aside0 (usesF l0 kq out todo=usesP l0 k)∧Aside0 (Kd.R Kd.bool 4 wr W1.heap.size (fun _=>True) (.slice (some ⟨g,0,none⟩) l0.length cap) out)∧Aside0 (Kd.Q (Kd.int .i64) 3 wr W1.heap.size (fun _=>True) v6 todo)∧Aside0 (Below W1.heap.size W1 wr))
 case atStart=>exact ⟨_,_,HQ0,⟨rfl⟩,HO2,HQ,HB2⟩
 case round=>
  clear HQ0 HO2 HQ HB2;obtain ⟨out,todo,HI,HU,HO,HQ,HB⟩:=hrel
  cases todo with
  | nil=>
   obtain ⟨tA,tc,e6,_⟩:=Kd.Q_slice HQ.out;rw [List.length_nil] at e6;subst e6;have HR:Aside0 (out=usesP l0 k):=⟨by rw [← HU.out];cases gk <;> rfl⟩;go_wp2_with (omega);go_ret;obtain ⟨e1,e2,e3⟩:=Kd.R_reads' HO.out;exact ⟨_,_,rfl,e2,by rw [← HR.out];exact e1.symm,by rw [← HR.out,e1];exact e3,below_step HBW.out HB.out⟩
  | cons t r=>
   cases gk with
   | zero=>have:=HI.out.fuel;simp at this
   | succ f=>
    obtain ⟨tg,tq,tc,e6,_,_,_⟩:=Kd.Q_form HQ.out (by simp);subst e6;have ht0:=(Kd.Q_cell (0:Int) HQ.out 0 (by omega) (by first|(simp;done)|(simp;omega))).1;simp only [Int.toNat_zero,Nat.add_zero] at ht0;replace ht0:wr.cell? ⟨tg,tq,none⟩=some (.int .i64 t):=ht0;have t0:0≤t:=HI.out.low t (by simp);have t1:t<l0.length:=HI.out.high t (by simp);obtain ⟨ad,B1,d1,B2,d2,e0,hx0,hx1,hx2,z1,z2,z3,z4⟩:=at_T65 HP1.out.r0 t t0 t1;subst e0;have hmem:rd_T65 l0 t∈l0:=by
     obtain ⟨q,rfl⟩:∃ q:Nat,t=q:=⟨t.toNat,by omega⟩;rw [rdT65_get (by omega)];exact List.getElem_mem _
    have HE:=am (HDL.out (rd_T65 l0 t) hmem);clear hmem;have HR2:=am z4;clear z1 z2 z3 z4;have HU2:Aside0 (usesF l0 f ((namesD (rd_T65 l0 t)).foldl (stepU l0) (out,r)).1 ((namesD (rd_T65 l0 t)).foldl (stepU l0) (out,r)).2=usesP l0 k):=⟨HU.out⟩;clear HU
    unfold namesD at HU2
    generalize rd_T65 l0 t=y at *;have hq0:wr.drew.cell? ⟨gb,0,none⟩=some (.slice (some ad) l0.length c0):=pb HB.out.drew hb0;have hq1:wr.drew.cell? ⟨tg,tq,none⟩=some (.int .i64 t):=ht0;have hq2:=pb HB.out.drew hx0;have hq3:=pb HB.out.drew hx1;have hq4:=pb HB.out.drew hx2;clear hx0 hx1 hx2;have hlr:r.length+1≤9223372036854775807:=by
     have h1:=HI.out.fuel;have h2:=HI.out.top;rw [List.length_cons] at h1;have:=HN.out;omega
    go_wp2_with (omega);refine start_ (n:=9) (S:=fun w'=>w'.cell? ⟨gb,0,none⟩=some (.slice (some ad) l0.length c0)∧w'.cell? ⟨tg,tq,none⟩=some (.int .i64 t)∧w'.cell? (ad.add (t.toNat * 3))=some (.string y.f0)∧w'.cell? ⟨(ad.add (t.toNat * 3)).block,(ad.add (t.toNat * 3)).off+1,none⟩=some (.slice B1 y.f1.length d1)∧w'.cell? ⟨(ad.add (t.toNat * 3)).block,(ad.add (t.toNat * 3)).off+2,none⟩=some (.slice B2 y.f2.f0.length d2)) (ds:=[]) #[false,false,false,false,false,false,false,false,false] (by kernel_rfl) rfl rfl ⟨hq0,hq1,hq2,hq3,hq4⟩ (fun hHeld=>?_);refine pu 0 20 ?_;refine pu 2 22 ?_;refine pu 3 23 ?_;refine tk 1 21 hHeld ?_;refine tk 4 24 hHeld ?_;refine pu 5 25 ?_;refine tk 6 26 hHeld ?_;refine one_ (i:=7) (N:=some 7) #[true,true,true,true,true,true,true,true,false] rfl rfl (by kernel_rfl) (by decide) (fun K hK=>?_);refine value_ (w1:=?_) (v:=?_) (by rfl) rfl ?_ ?_;rotate_left 2
    ·go_simp
     constructor
     ·rfl
     ·rfl
    have hb7:Below wr.drew.heap.size wr.drew ((wr.alloc (.cells #[.string ⟨#[]⟩,.slice none 0 0,.slice none 0 0] 65)).drew):=(show Below _ _ (wr.drew.alloc (.cells #[.string ⟨#[]⟩,.slice none 0 0,.slice none 0 0] 65)) by exact be);refine hK.out _ _ ⟨pb hb7 hHeld.1,pb hb7 hHeld.2.1,pb hb7 hHeld.2.2.1,pb hb7 hHeld.2.2.2.1,pb hb7 hHeld.2.2.2.2⟩ (fun hHeld=>?_);clear hK K;refine nr ?_;refine one_ (i:=8) (N:=none) #[true,true,true,true,true,true,true,true,true] rfl rfl (by kernel_rfl) (by decide) (fun K hK=>?_);refine skip_ (w1:=?_) (by rfl) rfl ?_ ?_;rotate_left
    ·go_simp
     rfl
    have hb8:Below wr.drew.heap.size wr.drew ((wr.alloc (.cells #[.string y.f0,.slice B1 y.f1.length d1,.slice B2 y.f2.f0.length d2] 65)).drew):=(show Below _ _ (wr.drew.alloc (.cells #[.string y.f0,.slice B1 y.f1.length d1,.slice B2 y.f2.f0.length d2] 65)) by exact be);refine hK.out _ _ ⟨pb hb8 hq0,pb hb8 hq1,pb hb8 hq2,pb hb8 hq3,pb hb8 hq4⟩ (fun hHeld=>?_);clear hK K;refine done_ (by kernel_rfl) ?_;clear hq0 hq1 hq2 hq3 hq4 hHeld hb7 hb8;obtain ⟨W4,hW4⟩:∃ W4,W4=(wr.alloc (.cells #[.string y.f0,.slice B1 y.f1.length d1,.slice B2 y.f2.f0.length d2] 65)).drew:=⟨_,rfl⟩;have hd2:W4.cell? ⟨wr.heap.size,2,none⟩=some (.slice B2 y.f2.f0.length d2):=by rw [hW4];simp [go_sem]
    have hb4:Below wr.heap.size wr W4:=by rw [hW4];exact be
    have HB4:=am (below_then HB.out HB.out.size hb4);have HO4:=am (Kd.R_below HO.out hb4);have HQ4:=am (Kd.Q_below HQ.out hb4);rw [← hW4];clear hW4 hb4 HO HQ HB;have HN2:=am (names_calls B2 d2 y.f2.f0 W4 (Kd.C_below HR2.out HB4.out) HE.out);have HI4:Aside0 (InvU l0.length out r f):=⟨⟨HI.out.len,fun t ht=>HI.out.low t (by simp [ht]),fun t ht=>HI.out.high t (by simp [ht]),by have:=HI.out.fuel;simp at this;omega,by have:=HI.out.top;omega⟩⟩;have HQ5:=am (Kd.Q_drop (k:=1) HQ4.out (by simp));clear HI HQ4;obtain ⟨TOT,hTOT⟩:∃ TOT,TOT=(tidyB (namesRaw y.f2.f0)).foldl (stepU l0) (out,r):=⟨_,rfl⟩;rw [← hTOT] at HU2;have HF:=am hTOT;clear hTOT HR2 HE;generalize tidyB (namesRaw y.f2.f0)=nms at *;clear hlr;have hr1:(t :: r).drop 1=r:=rfl;have hr2:(t :: r).length - 1=r.length:=by simp
    have hr3:r.length+1 - 1=r.length:=by omega
    rw [hr1,hr2] at HQ5
    by_cases htc:tc=1
    ·subst htc;rw [if_pos rfl] at HQ5;go_wp2_with (omega);obtain ⟨v6n,hv6n⟩:∃ v,v=Value.slice (some ⟨tg,tq,none⟩) r.length 0:=⟨_,rfl⟩;replace HQ5:Aside0 (Kd.Q (Kd.int .i64) 3 W4 W1.heap.size (fun _=>True) v6n r):=⟨by rw [hv6n];exact HQ5.out⟩;rw [← hv6n];clear hv6n;refine HN2.out.mono ?_;rintro e w5 ⟨A,n,rfl,hnl,hC,hty,hb⟩;have HC:=am hC;have HTy:=am (show Typed9 w5 A from hty);have HB5:=am (below_then HB4.out HB4.out.size hb);have HO5:=am (Kd.R_below HO4.out hb);have HQ6:=am (Kd.Q_below HQ5.out hb);clear hC hty hb HB4 HO4 HQ5 HN2 hd2;go_wp2_with (omega);have hnl':=hnl;subst hnl';have HPm:=HP1
     go_loopw [6,33] (fun v6 i w6=>∃ (j:Nat) (out':List Bool) (todo':List Int),j≤nms.length∧i=.int .i64 j∧Aside0 (InvU l0.length out' todo' f)∧Aside0 ((nms.drop j).foldl (stepU l0) (out',todo')=TOT)∧Aside0 (Kd.R Kd.bool 4 w6 W1.heap.size (fun _=>True) (.slice (some ⟨g,0,none⟩) l0.length cap) out')∧Aside0 (Kd.Q (Kd.int .i64) 3 w6 W1.heap.size (fun _=>True) v6 todo')∧Aside0 (Kd.C Kd.string w6 A nms.length nms)∧Aside0 (Typed9 w6 A)∧Aside0 (Below W1.heap.size W1 w6)) (fun _ i _=>nms.length - (intOf i).toNat)
     case atStart=>exact ⟨0,out,r,Nat.zero_le _,rfl,HI4,⟨HF.out.symm⟩,HO5,HQ6,HC,HTy,HB5⟩
     case round=>
      clear HI4 HF HO5 HQ6 HC HTy HB5;obtain ⟨j,out',todo',hj,rfl,HIn,HFn,HOn,HQn,HCn,HTn,HBn⟩:=hrel;have hq0:=pb HBn.out hb0;have hq1:=pb HBn.out hb1;have hq2:=pb HBn.out hb2;have hnmax:nms.length≤9223372036854775807:=HCn.out.2.1
      by_cases hlt:j<nms.length
      ·obtain ⟨ad',e0,hx⟩:=Kd.at_string HCn.out (j:Int) (by omega) (by omega);subst e0;rw [rdStr_get hlt,Int.toNat_natCast] at hx;obtain ⟨nm,hnm⟩:∃ nm,nm=nms[j]:=⟨_,rfl⟩;rw [← hnm] at hx;have HD:Aside0 (nms.drop j=nm :: nms.drop (j+1)):=⟨(List.drop_eq_getElem_cons hlt).trans (by rw [← hnm])⟩;have HS:Aside0 ((nms.drop (j+1)).foldl (stepU l0) (stepU l0 (out',todo') nm)=TOT):=⟨by rw [← HFn.out,HD.out];rfl⟩;have HIS:=am (InvU.step HIn.out nm);have HFU:Aside0 (todo'.length≤l0.length+1):=⟨by have:=HIn.out.fuel;have:=HIn.out.top;omega⟩;have HLEN:=am (HIn.out.len);clear HD HFn HIn hnm;have C1:=am (defAt_calls (some ad) c0 l0 A1 c1 l1 A2 c2 l2 nm wr (HPm.out.below HBn.out));have hidx:=defIdx_range l0 nm
       unfold stepU at HS HIS
       generalize defIdx l0 nm=dx at *;obtain ⟨hi1,hi2⟩:=hidx;go_wp2_with (omega);refine C1.out.mono ?_;rintro e w7 ⟨rfl,hb⟩;have HB7:=am (below_then HBn.out HBn.out.size hb);have HO7:=am (Kd.R_below HOn.out hb);have HQ7:=am (Kd.Q_below HQn.out hb);have HC7:=am (C_keep HCn.out (HTn.out.below hb));have HT7:=am (HTn.out.keep (HTn.out.below hb));replace hq0:=pb hb hq0;clear hq1 hq2 hx hb C1 HOn HQn HCn HTn HBn
       by_cases d0:0≤dx
       ·have hcell:=Kd.R_celln true HO7.out dx d0 hi2;obtain ⟨hcl,hcf⟩:=hcell;replace hcl:w7.cell? ⟨g,dx.toNat,none⟩=some (.bool (out'.getD dx.toNat true)):=hcl;have hd0:decide (0≤dx)=true:=decide_eq_true d0
        cases hgo:out'.getD dx.toNat true with
        | true=>
         have HS2:Aside0 ((nms.drop (j+1)).foldl (stepU l0) (out',todo')=TOT):=⟨by have h:=HS.out;rw [if_neg (by rw [hgo];simp)] at h;exact h⟩;have HI2:Aside0 (InvU l0.length out' todo' f):=⟨by have h:=HIS.out;rw [if_neg (by rw [hgo];simp)] at h;exact h⟩;rw [hgo] at hcl;clear HS HIS hgo;go_wp2_with (omega)
         go_roundw
         case rel=>exact ⟨j+1,out',todo',by omega,by go_num,HI2,HS2,HO7,HQ7,HC7,HT7,HB7⟩
         case measure=>simp [intOf];omega
        | false=>
         have HS2:Aside0 ((nms.drop (j+1)).foldl (stepU l0) (out'.set dx.toNat true,todo'++[dx])=TOT):=⟨by have h:=HS.out;rw [if_pos ⟨d0,hgo⟩] at h;exact h⟩;have HI2:Aside0 (InvU l0.length (out'.set dx.toNat true) (todo'++[dx]) f):=⟨by have h:=HIS.out;rw [if_pos ⟨d0,hgo⟩] at h;exact h⟩;rw [hgo] at hcl;clear HS HIS hgo;have HPut:=am (Kd.R_putg HO7.out dx true);have HGT:Aside0 (∃ cells,w7.heap[g]?=some (.cells cells 4 (0,0))):=⟨by obtain ⟨inner,ho⟩:=Kd.R_own HO7.out;exact own_typed ho g (by simp [Value.ownBlock])⟩;have HB8:Aside0 (Below W1.heap.size W1 (w7.setCell ⟨g,dx.toNat,none⟩ (.bool true))):=⟨below_set HB7.out hgb⟩;have HQ8:Aside0 (Kd.Q (Kd.int .i64) 3 (w7.setCell ⟨g,dx.toNat,none⟩ (.bool true)) W1.heap.size (fun _=>True) u6 todo'):=⟨by obtain ⟨cells,hc⟩:=HGT.out;exact Kd.Q_set HQ7.out hc (by decide) _ _⟩;have HK8:=am (HT7.out.other 4 (by decide) HPut.out.2 (by intro k hk;cases hk;exact HGT.out));have HC8:=am (C_keep HC7.out HK8.out);have HT8:=am (HT7.out.keep HK8.out);clear HC7 HT7 HK8 HQ7 HB7 HGT;go_wp2_with (first|omega|(at_builtin;refine Kd.Q_append (Kd.int .i64) (w0:=W1) W1.heap.size rfl _ _ 135 3 (.int .i64 0) 8 rfl Tryz.underlying135 info3 rfl (by decide) (by omega) u6 todo' dx [.int .i64 dx] (fun _=>True) (fun _=>False) rfl (by first|(go_simp;done)|(go_simp;rfl)) rfl (fun _ h=>h.elim) (fun _ _=>trivial) HQ8.out HB8.out HB8.out.size (by have:=HFU.out;have:=HN.out;omega) ?_;intro v9 w9 ho hb hg hat;have HQ9:=am ho;have HB9:=am hb;have HG9:=am hg;clear ho hb hg hat));have HTQ:=am (Kd.Q_typed HQ8.out);have HO9:=am (Kd.R_over' HPut.out.1 HTQ.out (by decide) HG9.out);have HK9:=am (HT8.out.other 3 (by decide) HG9.out HTQ.out)
         go_roundw
         case rel=>exact ⟨j+1,_,_,by omega,by go_num,HI2,HS2,HO9,HQ9,⟨C_keep HC8.out HK9.out⟩,⟨HT8.out.keep HK9.out⟩,HB9⟩
         case measure=>simp [intOf];omega
       ·have HS2:Aside0 ((nms.drop (j+1)).foldl (stepU l0) (out',todo')=TOT):=⟨by have h:=HS.out;rw [if_neg (fun q=>d0 q.1)] at h;exact h⟩;have HI2:Aside0 (InvU l0.length out' todo' f):=⟨by have h:=HIS.out;rw [if_neg (fun q=>d0 q.1)] at h;exact h⟩;have hd0:decide (0≤dx)=false:=decide_eq_false d0;clear HS HIS;go_wp2_with (omega)
        go_roundw
        case rel=>exact ⟨j+1,out',todo',by omega,by go_num,HI2,HS2,HO7,HQ7,HC7,HT7,HB7⟩
        case measure=>simp [intOf];omega
      ·have HT2:Aside0 ((out',todo')=TOT):=⟨by rw [← HFn.out,List.drop_of_length_le (by omega)];rfl⟩;have HU3:Aside0 (usesF l0 f out' todo'=usesP l0 k):=⟨by have h:=HU2.out;rw [← HT2.out] at h;exact h⟩;go_wp2_with (omega)
       go_roundg f
       case measure=>omega
       case rel=>exact ⟨out',todo',HIn,HU3,HOn,HQn,HBn⟩
    ·rw [if_neg htc] at HQ5;go_wp2_with (omega);obtain ⟨v6n,hv6n⟩:∃ v,v=Value.slice (some ⟨tg,tq+1,none⟩) r.length (tc - 1):=⟨_,rfl⟩;replace HQ5:Aside0 (Kd.Q (Kd.int .i64) 3 W4 W1.heap.size (fun _=>True) v6n r):=⟨by rw [hv6n];exact HQ5.out⟩;rw [← hv6n];clear hv6n;refine HN2.out.mono ?_;rintro e w5 ⟨A,n,rfl,hnl,hC,hty,hb⟩;have HC:=am hC;have HTy:=am (show Typed9 w5 A from hty);have HB5:=am (below_then HB4.out HB4.out.size hb);have HO5:=am (Kd.R_below HO4.out hb);have HQ6:=am (Kd.Q_below HQ5.out hb);clear hC hty hb HB4 HO4 HQ5 HN2 hd2;go_wp2_with (omega);have hnl':=hnl;subst hnl';have HPm:=HP1
     go_loopw [6,33] (fun v6 i w6=>∃ (j:Nat) (out':List Bool) (todo':List Int),j≤nms.length∧i=.int .i64 j∧Aside0 (InvU l0.length out' todo' f)∧Aside0 ((nms.drop j).foldl (stepU l0) (out',todo')=TOT)∧Aside0 (Kd.R Kd.bool 4 w6 W1.heap.size (fun _=>True) (.slice (some ⟨g,0,none⟩) l0.length cap) out')∧Aside0 (Kd.Q (Kd.int .i64) 3 w6 W1.heap.size (fun _=>True) v6 todo')∧Aside0 (Kd.C Kd.string w6 A nms.length nms)∧Aside0 (Typed9 w6 A)∧Aside0 (Below W1.heap.size W1 w6)) (fun _ i _=>nms.length - (intOf i).toNat)
     case atStart=>exact ⟨0,out,r,Nat.zero_le _,rfl,HI4,⟨HF.out.symm⟩,HO5,HQ6,HC,HTy,HB5⟩
     case round=>
      clear HI4 HF HO5 HQ6 HC HTy HB5;obtain ⟨j,out',todo',hj,rfl,HIn,HFn,HOn,HQn,HCn,HTn,HBn⟩:=hrel;have hq0:=pb HBn.out hb0;have hq1:=pb HBn.out hb1;have hq2:=pb HBn.out hb2;have hnmax:nms.length≤9223372036854775807:=HCn.out.2.1
      by_cases hlt:j<nms.length
      ·obtain ⟨ad',e0,hx⟩:=Kd.at_string HCn.out (j:Int) (by omega) (by omega);subst e0;rw [rdStr_get hlt,Int.toNat_natCast] at hx;obtain ⟨nm,hnm⟩:∃ nm,nm=nms[j]:=⟨_,rfl⟩;rw [← hnm] at hx;have HD:Aside0 (nms.drop j=nm :: nms.drop (j+1)):=⟨(List.drop_eq_getElem_cons hlt).trans (by rw [← hnm])⟩;have HS:Aside0 ((nms.drop (j+1)).foldl (stepU l0) (stepU l0 (out',todo') nm)=TOT):=⟨by rw [← HFn.out,HD.out];rfl⟩;have HIS:=am (InvU.step HIn.out nm);have HFU:Aside0 (todo'.length≤l0.length+1):=⟨by have:=HIn.out.fuel;have:=HIn.out.top;omega⟩;have HLEN:=am (HIn.out.len);clear HD HFn HIn hnm;have C1:=am (defAt_calls (some ad) c0 l0 A1 c1 l1 A2 c2 l2 nm wr (HPm.out.below HBn.out));have hidx:=defIdx_range l0 nm
       unfold stepU at HS HIS
       generalize defIdx l0 nm=dx at *;obtain ⟨hi1,hi2⟩:=hidx;go_wp2_with (omega);refine C1.out.mono ?_;rintro e w7 ⟨rfl,hb⟩;have HB7:=am (below_then HBn.out HBn.out.size hb);have HO7:=am (Kd.R_below HOn.out hb);have HQ7:=am (Kd.Q_below HQn.out hb);have HC7:=am (C_keep HCn.out (HTn.out.below hb));have HT7:=am (HTn.out.keep (HTn.out.below hb));replace hq0:=pb hb hq0;clear hq1 hq2 hx hb C1 HOn HQn HCn HTn HBn
       by_cases d0:0≤dx
       ·have hcell:=Kd.R_celln true HO7.out dx d0 hi2;obtain ⟨hcl,hcf⟩:=hcell;replace hcl:w7.cell? ⟨g,dx.toNat,none⟩=some (.bool (out'.getD dx.toNat true)):=hcl;have hd0:decide (0≤dx)=true:=decide_eq_true d0
        cases hgo:out'.getD dx.toNat true with
        | true=>
         have HS2:Aside0 ((nms.drop (j+1)).foldl (stepU l0) (out',todo')=TOT):=⟨by have h:=HS.out;rw [if_neg (by rw [hgo];simp)] at h;exact h⟩;have HI2:Aside0 (InvU l0.length out' todo' f):=⟨by have h:=HIS.out;rw [if_neg (by rw [hgo];simp)] at h;exact h⟩;rw [hgo] at hcl;clear HS HIS hgo;go_wp2_with (omega)
         go_roundw
         case rel=>exact ⟨j+1,out',todo',by omega,by go_num,HI2,HS2,HO7,HQ7,HC7,HT7,HB7⟩
         case measure=>simp [intOf];omega
        | false=>
         have HS2:Aside0 ((nms.drop (j+1)).foldl (stepU l0) (out'.set dx.toNat true,todo'++[dx])=TOT):=⟨by have h:=HS.out;rw [if_pos ⟨d0,hgo⟩] at h;exact h⟩;have HI2:Aside0 (InvU l0.length (out'.set dx.toNat true) (todo'++[dx]) f):=⟨by have h:=HIS.out;rw [if_pos ⟨d0,hgo⟩] at h;exact h⟩;rw [hgo] at hcl;clear HS HIS hgo;have HPut:=am (Kd.R_putg HO7.out dx true);have HGT:Aside0 (∃ cells,w7.heap[g]?=some (.cells cells 4 (0,0))):=⟨by obtain ⟨inner,ho⟩:=Kd.R_own HO7.out;exact own_typed ho g (by simp [Value.ownBlock])⟩;have HB8:Aside0 (Below W1.heap.size W1 (w7.setCell ⟨g,dx.toNat,none⟩ (.bool true))):=⟨below_set HB7.out hgb⟩;have HQ8:Aside0 (Kd.Q (Kd.int .i64) 3 (w7.setCell ⟨g,dx.toNat,none⟩ (.bool true)) W1.heap.size (fun _=>True) u6 todo'):=⟨by obtain ⟨cells,hc⟩:=HGT.out;exact Kd.Q_set HQ7.out hc (by decide) _ _⟩;have HK8:=am (HT7.out.other 4 (by decide) HPut.out.2 (by intro k hk;cases hk;exact HGT.out));have HC8:=am (C_keep HC7.out HK8.out);have HT8:=am (HT7.out.keep HK8.out);clear HC7 HT7 HK8 HQ7 HB7 HGT;go_wp2_with (first|omega|(at_builtin;refine Kd.Q_append (Kd.int .i64) (w0:=W1) W1.heap.size rfl _ _ 135 3 (.int .i64 0) 8 rfl Tryz.underlying135 info3 rfl (by decide) (by omega) u6 todo' dx [.int .i64 dx] (fun _=>True) (fun _=>False) rfl (by first|(go_simp;done)|(go_simp;rfl)) rfl (fun _ h=>h.elim) (fun _ _=>trivial) HQ8.out HB8.out HB8.out.size (by have:=HFU.out;have:=HN.out;omega) ?_;intro v9 w9 ho hb hg hat;have HQ9:=am ho;have HB9:=am hb;have HG9:=am hg;clear ho hb hg hat));have HTQ:=am (Kd.Q_typed HQ8.out);have HO9:=am (Kd.R_over' HPut.out.1 HTQ.out (by decide) HG9.out);have HK9:=am (HT8.out.other 3 (by decide) HG9.out HTQ.out)
         go_roundw
         case rel=>exact ⟨j+1,_,_,by omega,by go_num,HI2,HS2,HO9,HQ9,⟨C_keep HC8.out HK9.out⟩,⟨HT8.out.keep HK9.out⟩,HB9⟩
         case measure=>simp [intOf];omega
       ·have HS2:Aside0 ((nms.drop (j+1)).foldl (stepU l0) (out',todo')=TOT):=⟨by have h:=HS.out;rw [if_neg (fun q=>d0 q.1)] at h;exact h⟩;have HI2:Aside0 (InvU l0.length out' todo' f):=⟨by have h:=HIS.out;rw [if_neg (fun q=>d0 q.1)] at h;exact h⟩;have hd0:decide (0≤dx)=false:=decide_eq_false d0;clear HS HIS;go_wp2_with (omega)
        go_roundw
        case rel=>exact ⟨j+1,out',todo',by omega,by go_num,HI2,HS2,HO7,HQ7,HC7,HT7,HB7⟩
        case measure=>simp [intOf];omega
      ·have HT2:Aside0 ((out',todo')=TOT):=⟨by rw [← HFn.out,List.drop_of_length_le (by omega)];rfl⟩;have HU3:Aside0 (usesF l0 f out' todo'=usesP l0 k):=⟨by have h:=HU2.out;rw [← HT2.out] at h;exact h⟩;go_wp2_with (omega)
       go_roundg f
       case measure=>omega
       case rel=>exact ⟨out',todo',HIn,HU3,HOn,HQn,HBn⟩
structure FitP (l0:List S65) (l1:List ByteArray) (l2:List S63):Prop extends SmallP l0 l1 l2 where
 n0:l0.length<1099511627776
 n1:l1.length<1099511627776
 n2:l2.length<1099511627776
 bodies:∀ x,x∈l0→x.f2.f0.length<1099511627776
 sides:∀ x,x∈l2→x.f1.f0.length<1099511627776∧x.f2.f0.length<1099511627776
def loopAt (l0:List S65) (i:Nat):Bool:=(usesP l0 i).getD i false
def loopB (l0:List S65):Bool:=(List.range' 0 l0.length).any (loopAt l0)
theorem at_bool {w:World} {A:Option Addr} {n:Nat} {xs:List Bool} (h:Kd.bool.C w A n xs) (i:Nat) (h1:i<n):∃ ad,A=some ad∧w.cell? (ad.add i)=some (.bool (xs.getD i false)):=by
 obtain ⟨a,b⟩:=ReadsOf.at_ (Kd.reads_of_C (enc:=Value.bool) (d:=false) (h1:=fun _=>rfl) h) (i:Int) (by omega) (by omega);exact ⟨a,b.1,by have:=b.2;rwa [Int.toNat_natCast] at this⟩
set_option maxHeartbeats 4000000 in
set_option maxRecDepth 100000 in
theorem loop_calls (A0:Option Addr) (c0:Nat) (l0:List S65) (A1:Option Addr) (c1:Nat) (l1:List ByteArray) (A2:Option Addr) (c2:Nat) (l2:List S63) (w:World) (hP:PRd w A0 c0 l0 A1 c1 l1 A2 c2 l2) (hF:FitP l0 l1 l2) :
 Calls Tryz.prog 93 #[.agg #[.slice A0 l0.length c0,.slice A1 l1.length c1,.slice A2 l2.length c2]] w fun e w'=>(∃ r,e=.returned (.int .i64 r)∧decide (0≤r)=loopB l0)∧Below w.heap.size w w':=by
 have HP:=am hP;have HF:=am hF;clear hP hF;have hu38:=Tryz.underlying38;have n0:l0.length<1099511627776:=HF.out.n0;go_enter Tryz.func93,Tryz.ntmps93;go_wp2
 go_loopw [7] (fun i wr=>∃ (k:Nat),k≤l0.length∧i=.int .i64 k∧Aside0 (loopB l0=(List.range' k (l0.length - k)).any (loopAt l0))∧Aside0 (Below w.heap.size w wr)∧wr.cell? ⟨w.heap.size,0,none⟩=some (.slice A0 l0.length c0)∧wr.cell? ⟨w.heap.size,1,none⟩=some (.slice A1 l1.length c1)∧wr.cell? ⟨w.heap.size,2,none⟩=some (.slice A2 l2.length c2)) (fun i _=>l0.length - (intOf i).toNat)
 case atStart=>exact ⟨0,Nat.zero_le _,rfl,⟨rfl⟩,⟨by exact be⟩,by simp [go_sem],by simp [go_sem],by simp [go_sem]⟩
 case round=>
  obtain ⟨k,hk,rfl,HI,HB,hb0,hb1,hb2⟩:=hrel
  by_cases hlt:k<l0.length
  ·have HI2:Aside0 (loopB l0=(loopAt l0 k||(List.range' (k+1) (l0.length - (k+1))).any (loopAt l0))):=⟨by rw [HI.out,show l0.length - k=(l0.length - (k+1))+1 by omega,List.range'_succ];rfl⟩;have C1:=am (uses_calls A0 c0 l0 A1 c1 l1 A2 c2 l2 (k:Int) (by omega) (by omega) wr (HP.out.below HB.out) (by omega) (fun x hx=>Nat.lt_trans (HF.out.bodies x hx) (by omega)));have HL:Aside0 (loopAt l0 k=(usesP l0 k).getD k false):=⟨rfl⟩;clear HI;generalize loopAt l0 k=b at *;generalize usesP l0 k=us at *;go_wp2_with (omega);refine C1.out.mono ?_;rintro e w1 ⟨A,c,rfl,hnc,hlen,hC,hb⟩;have HB1:=am (below_step (w:=w) HB.out hb);replace hb0:=pb hb hb0;replace hb1:=pb hb hb1;replace hb2:=pb hb hb2;obtain ⟨ad,rfl,hx⟩:=at_bool hC k hlt;rw [← HL.out] at hx;clear hC hb C1 HB
   cases b with
   | true=>
    go_wp2_with (omega);go_ret;exact ⟨⟨_,rfl,by rw [HI2.out];simp;try omega⟩,HB1.out⟩
   | false=>
    have HI3:Aside0 (loopB l0=(List.range' (k+1) (l0.length - (k+1))).any (loopAt l0)):=⟨HI2.out⟩;go_wp2_with (omega)
    go_roundw
    case rel=>exact ⟨k+1,by omega,by go_num,HI3,HB1,hb0,hb1,hb2⟩
    case measure=>simp [intOf];omega
  ·go_wp2_with (omega);go_ret;exact ⟨⟨_,rfl,by rw [HI.out,show l0.length - k=0 by omega];simp⟩,HB.out⟩
def firstCode {α:Type} (f:α→Int):List α→Int
 | []=>0
 | x :: r=>if f x≠0 then f x else firstCode f r
noncomputable def progCodeP (l0:List S65) (l1:List ByteArray) (l2:List S63):Int:=
 if formedB l0 l1 l2=false then 4 else if manyB l0 l1 l2=true then 5 else if againB l0 l1=true then 6
 else if firstCode (defCodeP l0) l0≠0 then firstCode (defCodeP l0) l0
 else if firstCode (relCodeP l0 l1) l2≠0 then firstCode (relCodeP l0 l1) l2
 else if loopB l0=true then 10 else if l1.length=0∨l2.length=0 then 11 else 0
set_option maxHeartbeats 8000000 in
set_option maxRecDepth 100000 in
theorem ProgCode_calls (A0:Option Addr) (c0:Nat) (l0:List S65) (A1:Option Addr) (c1:Nat) (l1:List ByteArray) (A2:Option Addr) (c2:Nat) (l2:List S63) (w:World) (hG:GV w) (hP:PRd w A0 c0 l0 A1 c1 l1 A2 c2 l2) (hF:FitP l0 l1 l2) :
 Calls Tryz.prog 29 #[.agg #[.slice A0 l0.length c0,.slice A1 l1.length c1,.slice A2 l2.length c2]] w fun e w'=>e=.returned (.int .i64 (progCodeP l0 l1 l2))∧Below w.heap.size w w':=by
 have HG:=am hG;have HP:=am hP;have HF:=am hF;clear hP hF hG;have hu38:=Tryz.underlying38;have hu65:=Tryz.underlying65;have hu63:=Tryz.underlying63;have n0:l0.length<1099511627776:=HF.out.n0;have n1:l1.length<1099511627776:=HF.out.n1;have n2:l2.length<1099511627776:=HF.out.n2;obtain ⟨r,hr⟩:∃ r,r=progCodeP l0 l1 l2:=⟨_,rfl⟩;rw [← hr]
 unfold progCodeP at hr
 have C1:=am (fun W h1 h2=>formed_calls A0 c0 l0 A1 c1 l1 A2 c2 l2 W h1 h2 HF.out.toSmallP);have C2:=am (fun W (h:PRd W A0 c0 l0 A1 c1 l1 A2 c2 l2)=>impl_Prog_many.calls A0 c0 l0 A1 c1 l1 A2 c2 l2 (manyB l0 l1 l2) W h.r0 h.h0 h.r1 h.h1 h.r2 h.h2 rfl);have C3:=am (fun W (h:PRd W A0 c0 l0 A1 c1 l1 A2 c2 l2)=>impl_Prog_again.calls A0 c0 l0 A1 c1 l1 A2 c2 l2 (againB l0 l1) W h.r0 h.h0 h.r1 h.h1 h.r2 h.h2 (by unfold impl_Prog_again.f;rw [if_pos (by omega)]));have C6:=am (fun W h=>loop_calls A0 c0 l0 A1 c1 l1 A2 c2 l2 W h HF.out);generalize formedB l0 l1 l2=b1 at *;generalize manyB l0 l1 l2=b2 at *;generalize againB l0 l1=b3 at *;generalize loopB l0=b6 at *;have HR:=am hr;clear hr
 cases b1 with
 | false=>
  have hv:r=4:=by rw [HR.out];simp
  go_enter Tryz.func29,Tryz.ntmps29;go_wp2_with fail;refine (C1.out _ (HG.out.below be) (HP.out.below be)).mono ?_;rintro e w1 ⟨rfl,hb⟩;have HB1:=am (below_step (w:=w) be hb);obtain ⟨hc0,hf0⟩:=bcell (W:=(w.alloc (.cells #[.slice A0 l0.length c0,.slice A1 l1.length c1,.slice A2 l2.length c2] 38))) hb;have hb0:w1.cell? ⟨w.heap.size,0,none⟩=some (.slice A0 l0.length c0):=by rw [hc0 _ _ (by simp)];simp [go_sem]
  have hb1:w1.cell? ⟨w.heap.size,1,none⟩=some (.slice A1 l1.length c1):=by rw [hc0 _ _ (by simp)];simp [go_sem]
  have hb2:w1.cell? ⟨w.heap.size,2,none⟩=some (.slice A2 l2.length c2):=by rw [hc0 _ _ (by simp)];simp [go_sem]
  clear hc0 hf0 hb;go_wp2_with (omega)
  all_goals go_ret
  all_goals exact ⟨by first|rfl|(rw [hv];rfl)|(simp;done)|(simp [hv];done),HB1.out⟩
 | true=>
  cases b2 with
  | true=>
   have hv:r=5:=by rw [HR.out];simp
   go_enter Tryz.func29,Tryz.ntmps29;go_wp2_with fail;refine (C1.out _ (HG.out.below be) (HP.out.below be)).mono ?_;rintro e w1 ⟨rfl,hb⟩;have HB1:=am (below_step (w:=w) be hb);obtain ⟨hc0,hf0⟩:=bcell (W:=(w.alloc (.cells #[.slice A0 l0.length c0,.slice A1 l1.length c1,.slice A2 l2.length c2] 38))) hb;have hb0:w1.cell? ⟨w.heap.size,0,none⟩=some (.slice A0 l0.length c0):=by rw [hc0 _ _ (by simp)];simp [go_sem]
   have hb1:w1.cell? ⟨w.heap.size,1,none⟩=some (.slice A1 l1.length c1):=by rw [hc0 _ _ (by simp)];simp [go_sem]
   have hb2:w1.cell? ⟨w.heap.size,2,none⟩=some (.slice A2 l2.length c2):=by rw [hc0 _ _ (by simp)];simp [go_sem]
   clear hc0 hf0 hb;go_wp2_with (omega);refine (C2.out _ (HP.out.below HB1.out)).mono ?_;rintro e w2 ⟨rfl,hb⟩;have HB2:=am (below_step (w:=w) (bo HB1) hb);replace hb0:=pb (below_step (w:=w1) be hb) hb0;replace hb1:=pb (below_step (w:=w1) be hb) hb1;replace hb2:=pb (below_step (w:=w1) be hb) hb2;clear hb;go_wp2_with (omega)
   all_goals go_ret
   all_goals exact ⟨by first|rfl|(rw [hv];rfl)|(simp;done)|(simp [hv];done),HB2.out⟩
  | false=>
   cases b3 with
   | true=>
    have hv:r=6:=by rw [HR.out];simp
    go_enter Tryz.func29,Tryz.ntmps29;go_wp2_with fail;refine (C1.out _ (HG.out.below be) (HP.out.below be)).mono ?_;rintro e w1 ⟨rfl,hb⟩;have HB1:=am (below_step (w:=w) be hb);obtain ⟨hc0,hf0⟩:=bcell (W:=(w.alloc (.cells #[.slice A0 l0.length c0,.slice A1 l1.length c1,.slice A2 l2.length c2] 38))) hb;have hb0:w1.cell? ⟨w.heap.size,0,none⟩=some (.slice A0 l0.length c0):=by rw [hc0 _ _ (by simp)];simp [go_sem]
    have hb1:w1.cell? ⟨w.heap.size,1,none⟩=some (.slice A1 l1.length c1):=by rw [hc0 _ _ (by simp)];simp [go_sem]
    have hb2:w1.cell? ⟨w.heap.size,2,none⟩=some (.slice A2 l2.length c2):=by rw [hc0 _ _ (by simp)];simp [go_sem]
    clear hc0 hf0 hb;go_wp2_with (omega);refine (C2.out _ (HP.out.below HB1.out)).mono ?_;rintro e w2 ⟨rfl,hb⟩;have HB2:=am (below_step (w:=w) (bo HB1) hb);replace hb0:=pb (below_step (w:=w1) be hb) hb0;replace hb1:=pb (below_step (w:=w1) be hb) hb1;replace hb2:=pb (below_step (w:=w1) be hb) hb2;clear hb;go_wp2_with (omega);refine (C3.out _ (HP.out.below HB2.out)).mono ?_;rintro e w3 ⟨rfl,hb⟩;have HB3:=am (below_step (w:=w) (bo HB2) hb);replace hb0:=pb (below_step (w:=w2) be hb) hb0;replace hb1:=pb (below_step (w:=w2) be hb) hb1;replace hb2:=pb (below_step (w:=w2) be hb) hb2;clear hb;go_wp2_with (omega)
    all_goals go_ret
    all_goals exact ⟨by first|rfl|(rw [hv];rfl)|(simp;done)|(simp [hv];done),HB3.out⟩
   | false=>
    go_enter Tryz.func29,Tryz.ntmps29;go_wp2_with fail;refine (C1.out _ (HG.out.below be) (HP.out.below be)).mono ?_;rintro e w1 ⟨rfl,hb⟩;have HB1:=am (below_step (w:=w) be hb);obtain ⟨hc0,hf0⟩:=bcell (W:=(w.alloc (.cells #[.slice A0 l0.length c0,.slice A1 l1.length c1,.slice A2 l2.length c2] 38))) hb;have hb0:w1.cell? ⟨w.heap.size,0,none⟩=some (.slice A0 l0.length c0):=by rw [hc0 _ _ (by simp)];simp [go_sem]
    have hb1:w1.cell? ⟨w.heap.size,1,none⟩=some (.slice A1 l1.length c1):=by rw [hc0 _ _ (by simp)];simp [go_sem]
    have hb2:w1.cell? ⟨w.heap.size,2,none⟩=some (.slice A2 l2.length c2):=by rw [hc0 _ _ (by simp)];simp [go_sem]
    clear hc0 hf0 hb;go_wp2_with (omega);refine (C2.out _ (HP.out.below HB1.out)).mono ?_;rintro e w2 ⟨rfl,hb⟩;have HB2:=am (below_step (w:=w) (bo HB1) hb);replace hb0:=pb (below_step (w:=w1) be hb) hb0;replace hb1:=pb (below_step (w:=w1) be hb) hb1;replace hb2:=pb (below_step (w:=w1) be hb) hb2;clear hb;go_wp2_with (omega);refine (C3.out _ (HP.out.below HB2.out)).mono ?_;rintro e w3 ⟨rfl,hb⟩;have HB3:=am (below_step (w:=w) (bo HB2) hb);replace hb0:=pb (below_step (w:=w2) be hb) hb0;replace hb1:=pb (below_step (w:=w2) be hb) hb1;replace hb2:=pb (below_step (w:=w2) be hb) hb2;clear hb;have HT2:Aside0 (r=if firstCode (defCodeP l0) l0≠0 then firstCode (defCodeP l0) l0 else if firstCode (relCodeP l0 l1) l2≠0 then firstCode (relCodeP l0 l1) l2 else if b6=true then 10 else if l1.length=0∨l2.length=0 then 11 else 0):=⟨HR.out⟩;clear HR C1 C2 C3;go_wp2_with (omega)
    go_loopw [22] (fun i wr=>∃ (k:Nat),k≤l0.length∧i=.int .i64 k∧Aside0 (firstCode (defCodeP l0) (l0.drop k)=firstCode (defCodeP l0) l0)∧Aside0 (Below w.heap.size w wr)∧wr.cell? ⟨w.heap.size,0,none⟩=some (.slice A0 l0.length c0)∧wr.cell? ⟨w.heap.size,1,none⟩=some (.slice A1 l1.length c1)∧wr.cell? ⟨w.heap.size,2,none⟩=some (.slice A2 l2.length c2)) (fun i _=>l0.length - (intOf i).toNat)
    case atStart=>exact ⟨0,Nat.zero_le _,rfl,⟨rfl⟩,HB3,hb0,hb1,hb2⟩
    case round=>
     clear HB1 HB2 HB3 hb0 hb1 hb2;obtain ⟨k,hk,rfl,HI,HB,hb0,hb1,hb2⟩:=hrel;have hz0:w.heap.size<wr.heap.size:=World.block_lt_of_cell? wr _ hb0
     by_cases hlt:k<l0.length
     ·obtain ⟨ad,B1,d1,B2,d2,e0,hx0,hx1,hx2,z1,z2,z3,z4⟩:=at_T65 HP.out.r0 (k:Int) (by omega) (by omega);subst e0;rw [rdT65_get hlt] at hx0 hx1 hx2 z1 z2 z3 z4;obtain ⟨y,hy⟩:∃ y,y=l0[k]:=⟨_,rfl⟩;rw [← hy] at hx0 hx1 hx2 z1 z2 z3 z4;replace hx0:=(pb HB.out hx0);replace hx1:=(pb HB.out hx1);replace hx2:=(pb HB.out hx2);simp only [Int.toNat_natCast] at hx0 hx1 hx2;have HD:Aside0 (l0.drop k=y :: l0.drop (k+1)):=⟨(List.drop_eq_getElem_cons hlt).trans (by rw [← hy])⟩;have HI2:Aside0 ((if defCodeP l0 y≠0 then defCodeP l0 y else firstCode (defCodeP l0) (l0.drop (k+1)))=firstCode (defCodeP l0) l0):=⟨by have h:=HI.out;rw [HD.out] at h;exact h⟩;have HR1:=am z2;have HR2:=am z4;have HC1:=am z1;clear z1 z2 z3 z4 HD HI hy;have C4:Aside0 (∀ W,PRd W (some ad) c0 l0 A1 c1 l1 A2 c2 l2→Kd.C Kd.string W B1 y.f1.length y.f1→Kd.C k102 W B2 y.f2.f0.length y.f2.f0→Calls Tryz.prog 91 #[.agg #[.slice (some ad) l0.length c0,.slice A1 l1.length c1,.slice A2 l2.length c2],.agg #[.string y.f0,.slice B1 y.f1.length d1,.slice B2 y.f2.f0.length d2]] W fun e w'=>e=.returned (.int .i64 (defCodeP l0 y))∧Below W.heap.size W w'):=⟨fun W h h1 h2=>defCode_calls (some ad) c0 l0 A1 c1 l1 A2 c2 l2 B1 d1 B2 d2 y W h h1 HC1.out h2⟩;generalize defCodeP l0 y=q at *;have hz1:¬ (wr.heap.size≤w.heap.size):=by omega
      by_cases hq:q=0
      ·subst hq;have HI3:Aside0 (firstCode (defCodeP l0) (l0.drop (k+1))=firstCode (defCodeP l0) l0):=⟨by have h:=HI2.out;simpa using h⟩;clear HI2;go_wp2_with (omega);refine (C4.out _ (HP.out.below (bo HB)) (Kd.C_below HR1.out (bo HB)) (Kd.C_below HR2.out (bo HB))).mono ?_;rintro e w4 ⟨rfl,hb⟩;have HB4:=am (below_step (w:=w) (bo HB) hb);replace hb0:=pb (below_step (w:=wr) be hb) hb0;replace hb1:=pb (below_step (w:=wr) be hb) hb1;replace hb2:=pb (below_step (w:=wr) be hb) hb2;clear hb;go_wp2_with (omega)
       go_roundw
       case rel=>exact ⟨k+1,by omega,by go_num,HI3,HB4,hb0,hb1,hb2⟩
       case measure=>simp [intOf];omega
      ·have hv:r=q:=by rw [HT2.out,← HI2.out,if_pos hq,if_pos hq]
       have hqb:(q != 0)=true:=by simpa using hq
       go_wp2_with (omega);refine (C4.out _ (HP.out.below (bo HB)) (Kd.C_below HR1.out (bo HB)) (Kd.C_below HR2.out (bo HB))).mono ?_;rintro e w4 ⟨rfl,hb⟩;have HB4:=am (below_step (w:=w) (bo HB) hb);replace hb0:=pb (below_step (w:=wr) be hb) hb0;replace hb1:=pb (below_step (w:=wr) be hb) hb1;replace hb2:=pb (below_step (w:=wr) be hb) hb2;clear hb;go_wp2_with (omega)
       all_goals go_ret
       all_goals exact ⟨by first|rfl|(rw [hv];rfl),HB4.out⟩
     ·have HT3:Aside0 (r=if firstCode (relCodeP l0 l1) l2≠0 then firstCode (relCodeP l0 l1) l2 else if b6=true then 10 else if l1.length=0∨l2.length=0 then 11 else 0):=⟨by
       rw [HT2.out];have h:firstCode (defCodeP l0) l0=0:=by rw [← HI.out,List.drop_of_length_le (by omega)];rfl
       rw [h];rfl⟩
      clear HT2 HI;go_wp2_with (omega)
      go_loopw [36] (fun i wr=>∃ (k:Nat),k≤l2.length∧i=.int .i64 k∧Aside0 (firstCode (relCodeP l0 l1) (l2.drop k)=firstCode (relCodeP l0 l1) l2)∧Aside0 (Below w.heap.size w wr)∧wr.cell? ⟨w.heap.size,0,none⟩=some (.slice A0 l0.length c0)∧wr.cell? ⟨w.heap.size,1,none⟩=some (.slice A1 l1.length c1)∧wr.cell? ⟨w.heap.size,2,none⟩=some (.slice A2 l2.length c2)) (fun i _=>l2.length - (intOf i).toNat)
      case atStart=>exact ⟨0,Nat.zero_le _,rfl,⟨rfl⟩,HB,hb0,hb1,hb2⟩
      case round=>
       clear HB hb0 hb1 hb2 hlt hk hz0;obtain ⟨k,hk,rfl,HI,HB,hb0,hb1,hb2⟩:=hrel;have hz0:w.heap.size<wr.heap.size:=World.block_lt_of_cell? wr _ hb0
       by_cases hlt:k<l2.length
       ·obtain ⟨ad,B1,d1,B2,d2,e0,hx0,hx1,hx2,z1,z2,z3,z4⟩:=at_T63 HP.out.r2 (k:Int) (by omega) (by omega);subst e0;have HSD:Aside0 (l2[k].f1.f0.length+l2[k].f2.f0.length<4398046511104):=⟨by have:=HF.out.sides l2[k] (List.getElem_mem _);omega⟩;rw [rdT63_get hlt] at hx0 hx1 hx2 z1 z2 z3 z4;obtain ⟨y,hy⟩:∃ y,y=l2[k]:=⟨_,rfl⟩;rw [← hy] at hx0 hx1 hx2 z1 z2 z3 z4 HSD;replace hx0:=(pb HB.out hx0);replace hx1:=(pb HB.out hx1);replace hx2:=(pb HB.out hx2);simp only [Int.toNat_natCast] at hx0 hx1 hx2;have HD:Aside0 (l2.drop k=y :: l2.drop (k+1)):=⟨(List.drop_eq_getElem_cons hlt).trans (by rw [← hy])⟩;have HI2:Aside0 ((if relCodeP l0 l1 y≠0 then relCodeP l0 l1 y else firstCode (relCodeP l0 l1) (l2.drop (k+1)))=firstCode (relCodeP l0 l1) l2):=⟨by have h:=HI.out;rw [HD.out] at h;exact h⟩;have HR1:=am z2;have HR2:=am z4;clear z1 z2 z3 z4 HD HI hy;have C5:Aside0 (∀ W,PRd W A0 c0 l0 A1 c1 l1 (some ad) c2 l2→Kd.C k102 W B1 y.f1.f0.length y.f1.f0→Kd.C k102 W B2 y.f2.f0.length y.f2.f0→Calls Tryz.prog 92 #[.agg #[.slice A0 l0.length c0,.slice A1 l1.length c1,.slice (some ad) l2.length c2],.agg #[.int .i64 y.f0,.slice B1 y.f1.f0.length d1,.slice B2 y.f2.f0.length d2]] W fun e w'=>e=.returned (.int .i64 (relCodeP l0 l1 y))∧Below W.heap.size W w'):=⟨fun W h h1 h2=>relCode_calls A0 c0 l0 A1 c1 l1 (some ad) c2 l2 B1 d1 B2 d2 y W h h1 h2 HSD.out⟩;generalize relCodeP l0 l1 y=q at *
        by_cases hq:q=0
        ·subst hq;have HI3:Aside0 (firstCode (relCodeP l0 l1) (l2.drop (k+1))=firstCode (relCodeP l0 l1) l2):=⟨by have h:=HI2.out;simpa using h⟩;clear HI2;go_wp2_with (omega);refine (C5.out _ (HP.out.below (bo HB)) (Kd.C_below HR1.out (bo HB)) (Kd.C_below HR2.out (bo HB))).mono ?_;rintro e w4 ⟨rfl,hb⟩;have HB4:=am (below_step (w:=w) (bo HB) hb);replace hb0:=pb (below_step (w:=wr) be hb) hb0;replace hb1:=pb (below_step (w:=wr) be hb) hb1;replace hb2:=pb (below_step (w:=wr) be hb) hb2;clear hb;go_wp2_with (omega)
         go_roundw
         case rel=>exact ⟨k+1,by omega,by go_num,HI3,HB4,hb0,hb1,hb2⟩
         case measure=>simp [intOf];omega
        ·have hv:r=q:=by rw [HT3.out,← HI2.out,if_pos hq,if_pos hq]
         have hqb:(q != 0)=true:=by simpa using hq
         go_wp2_with (omega);refine (C5.out _ (HP.out.below (bo HB)) (Kd.C_below HR1.out (bo HB)) (Kd.C_below HR2.out (bo HB))).mono ?_;rintro e w4 ⟨rfl,hb⟩;have HB4:=am (below_step (w:=w) (bo HB) hb);replace hb0:=pb (below_step (w:=wr) be hb) hb0;replace hb1:=pb (below_step (w:=wr) be hb) hb1;replace hb2:=pb (below_step (w:=wr) be hb) hb2;clear hb;go_wp2_with (omega)
         all_goals go_ret
         all_goals exact ⟨by first|rfl|(rw [hv];rfl),HB4.out⟩
       ·have HT4:Aside0 (r=if b6=true then 10 else if l1.length=0∨l2.length=0 then 11 else 0):=⟨by
         rw [HT3.out];have h:firstCode (relCodeP l0 l1) l2=0:=by rw [← HI.out,List.drop_of_length_le (by omega)];rfl
         rw [h];rfl⟩
        clear HT3 HI;go_wp2_with (omega);refine (C6.out _ (HP.out.below HB.out)).mono ?_;rintro e w1 ⟨⟨q,rfl,hq6⟩,hb⟩;have HB1:=am (below_step (w:=w) HB.out hb);replace hb0:=pb hb hb0;replace hb1:=pb hb hb1;replace hb2:=pb hb hb2;clear hb HB
        cases b6 with
        | true=>
         have hv:r=10:=by rw [HT4.out];simp
         go_wp2_with (omega)
         all_goals go_ret
         all_goals exact ⟨by first|rfl|(rw [hv];rfl),HB1.out⟩
        | false=>
         by_cases e1:l1.length=0
         ·have hv:r=11:=by rw [HT4.out];simp [e1]
          have e1b:((l1.length:Int) == 0)=true:=by simpa using e1
          go_wp2_with (omega)
          all_goals go_ret
          all_goals exact ⟨by first|rfl|(rw [hv];rfl),HB1.out⟩
         ·have e1b:((l1.length:Int) == 0)=false:=by simpa using e1
          by_cases e2:l2.length=0
          ·have hv:r=11:=by rw [HT4.out];simp [e2]
           have e2b:((l2.length:Int) == 0)=true:=by simpa using e2
           go_wp2_with (omega)
           all_goals go_ret
           all_goals exact ⟨by first|rfl|(rw [hv];rfl),HB1.out⟩
          ·have hv:r=0:=by rw [HT4.out,if_neg (by simp),if_neg (by omega)]
           have e2b:((l2.length:Int) == 0)=false:=by simpa using e2
           go_wp2_with (omega)
           all_goals go_ret
           all_goals exact ⟨by first|rfl|(rw [hv];rfl),HB1.out⟩
end Go.Proofs.YtbahacapnaohcaaGreatDoor.PB
