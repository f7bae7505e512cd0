import Derived.Test.YtbahacapnaohcaaGreatDoorA25
import Derived.Test.YtbahacapnaohcaaGreatDoorA9
set_option linter.unusedVariables false
set_option linter.unusedSimpArgs false
namespace Go.Proofs.YtbahacapnaohcaaGreatDoor.PB
open Go.RowKit Go.Proofs.YtbahacapnaohcaaGreatDoorW.PrintWords Go.Proofs.YtbahacapnaohcaaGreatDoorW.PrintLast Go.Proofs.YtbahacapnaohcaaGreatDoorW.PrintMore
theorem take_set_same {α:Type} (x0 x3:List α) (j:Nat) (a:α) (h:j<x0.length) (hl:x3.length=x0.length) (ht:x3.take j=x0.take j) (ha:a=x0[j]):(x3.set j a).take (j+1)=x0.take (j+1):=by
 rw [List.take_succ_eq_append_getElem (by rw [List.length_set];omega),List.take_succ_eq_append_getElem h,List.take_set_of_le (Nat.le_refl _),ht,List.getElem_set_self,ha]
theorem toStringS_l0 (x0:List ByteArray) (hn:x0.length≤9223372036854775807):∀ (d j:Nat) (x3:List ByteArray),j≤x0.length→x0.length - j<d→x3.length=x0.length→x3.take j=x0.take j→laws_toStringS.l0 d x0 x3 (j:Int)=some x0
 | 0,j,x3,_,h,_,_=>by omega
 | d+1,j,x3,hj,hd,hl,ht=>by
  unfold laws_toStringS.l0
  by_cases hlt:j<x0.length
  ·rw [if_pos (by omega),if_pos (by omega),if_pos (by omega),rdStr_get hlt,show wrap64 ((j:Int)+1)=((j+1:Nat):Int) by unfold wrap64;omega,Int.toNat_natCast];exact toStringS_l0 x0 hn d (j+1) _ (by omega) (by omega) (by rw [List.length_set];exact hl) (take_set_same x0 x3 j _ hlt hl ht rfl)
  ·rw [if_neg (by omega)];rw [List.take_of_length_le (by omega),List.take_of_length_le (by omega)] at ht;rw [ht]
theorem toStringS_f (l:List ByteArray) (k:Nat) (hk:l.length<k) (hn:l.length<1099511627776):laws_toStringS.f k l=some l:=by
 unfold laws_toStringS.f
 rw [if_pos (by omega),if_pos (by omega),Int.toNat_natCast];exact toStringS_l0 l (by omega) _ 0 _ (by omega) (by omega) (by simp) rfl
def cN (x:S338):S102:=⟨x.f0,x.f1,x.f2⟩
theorem rdT338_get {l:List S338} {k:Nat} (h:k<l.length):rd_T338 l (k:Int)=l[k]:=by
 unfold rd_T338;rw [Int.toNat_natCast,List.getD_eq_getElem?_getD,List.getElem?_eq_getElem h];rfl
theorem toTermNodeS_l0 (x0:List S338) (hn:x0.length≤9223372036854775807):∀ (d j:Nat) (x3:List S102),j≤x0.length→x0.length - j<d→x3.length=x0.length→x3.take j=(x0.map cN).take j→laws_toTermNodeS.l0 d x0 x3 (j:Int)=some (x0.map cN)
 | 0,j,x3,_,h,_,_=>by omega
 | d+1,j,x3,hj,hd,hl,ht=>by
  unfold laws_toTermNodeS.l0
  by_cases hlt:j<x0.length
  ·rw [if_pos (by omega),if_pos (by omega),rdT338_get hlt]
   show (some _:Option _).bind _=_
   rw [Option.bind_some,if_pos (by omega),show wrap64 ((j:Int)+1)=((j+1:Nat):Int) by unfold wrap64;omega,Int.toNat_natCast];exact toTermNodeS_l0 x0 hn d (j+1) _ (by omega) (by omega) (by rw [List.length_set];exact hl) (take_set_same (x0.map cN) x3 j _ (by simpa using hlt) (by simpa using hl) ht (by rw [List.getElem_map];rfl))
  ·rw [if_neg (by omega)];rw [List.take_of_length_le (by omega),List.take_of_length_le (by rw [List.length_map];omega)] at ht;rw [ht]
theorem toTermNodeS_f (l:List S338) (k:Nat) (hk:l.length<k) (hn:l.length<1099511627776):laws_toTermNodeS.f k l=some (l.map cN):=by
 unfold laws_toTermNodeS.f
 rw [if_pos (by omega),if_pos (by omega),Int.toNat_natCast];exact toTermNodeS_l0 l (by omega) _ 0 _ (by omega) (by omega) (by simp) rfl
theorem toTerm_f (l:List S338) (k:Nat) (hk:l.length<k) (hn:l.length<1099511627776):laws_toTerm.f k l=some (l.map cN):=by
 unfold laws_toTerm.f;rw [toTermNodeS_f l k hk hn];rfl
theorem toProgDef_f (nm:ByteArray) (ps:List ByteArray) (ns:List S338) (k:Nat) (h1:ps.length<k) (h2:ns.length<k) (h3:ps.length<1099511627776) (h4:ns.length<1099511627776):laws_toProgDef.f k nm ps ns=some (nm,ps,ns.map cN):=by
 unfold laws_toProgDef.f;rw [toStringS_f ps k h1 h3,Option.bind_some,toTerm_f ns k h2 h4];rfl
theorem toProgRel_f (kd:Int) (a b:List S338) (k:Nat) (h1:a.length<k) (h2:b.length<k) (h3:a.length<1099511627776) (h4:b.length<1099511627776):laws_toProgRel.f k kd a b=some (kd,a.map cN,b.map cN):=by
 unfold laws_toProgRel.f;rw [toTerm_f a k h1 h3,Option.bind_some,toTerm_f b k h2 h4];rfl
theorem toProgDef_calls (nm:ByteArray) (A1:Option Addr) (c1:Nat) (ps:List ByteArray) (A2:Option Addr) (c2:Nat) (ns:List S338) (w:World) (h1:Kd.C Kd.string w A1 ps.length ps) (hc1:ps.length≤c1) (h2:Kd.C k338 w A2 ns.length ns) (hc2:ns.length≤c2) (hn1:ps.length<1099511627776) (hn2:ns.length<1099511627776) :
 Calls Tryz.prog 205 #[.agg #[.string nm,.slice A1 ps.length c1,.slice A2 ns.length c2]] w fun e w'=>∃ v1 v2 Fa Fb,e=.returned (.agg #[.string nm,v1,v2])∧tS.Row 9 w' Fa v1 ps∧tN.Row 102 w' Fb v2 (ns.map cN)∧(Fa++Fb).Nodup∧(∀ k,k∈Fa++Fb→w.heap.size≤k)∧Below w.heap.size w w':=by
 refine (laws_toProgDef.calls (ps.length+ns.length+1) nm A1 c1 ps A2 c2 ns nm ps (ns.map cN) w h1 hc1 h2 hc2 (toProgDef_f nm ps ns _ (by omega) (by omega) hn1 hn2)).mono ?_;rintro e w' ⟨v1,v2,rfl,r1,r2,hb⟩;obtain ⟨Fa,q1,n1,f1⟩:=KT.leaf_of_R (h:=fun _ _=>rfl) (enc:=fun x=>[Value.string x]) (fun _ _ _ h=>h) r1;obtain ⟨Fb,q2,n2,f2⟩:=KT.leaf_of_R (h:=k102_enc) (enc:=encN) (fun _ _ _ h=>k102_openM h) r2;refine ⟨v1,v2,Fa,Fb,rfl,q1,q2,List.nodup_append.2 ⟨n1,n2,fun a ha b hb' e=>?_⟩,fun k hk=>(List.mem_append.1 hk).elim (f1 k) (f2 k),hb⟩;subst e;obtain ⟨_,t1⟩:=KT.leaf_typed q1 a ha;obtain ⟨_,t2⟩:=KT.leaf_typed q2 a hb';rw [t1] at t2;injection t2 with t2
 injection t2 with _ t3 _
 cases t3
theorem KT.leaf_own {α:Type} {w:World} {d:Kd α} {enc:α→List Value} {h:∀ w x,d.K w x (enc x)} {e:TypeId} {G:List Nat} {v:Value} {xs:List α} (hr:(KT.leaf d enc h).Row e w G v xs):∀ k,k∈G→v.ownBlock=some k:=by
 obtain ⟨A,c,rfl,_,_,h4⟩:=hr;intro k hk
 rcases h4 with ⟨_,e1,_⟩|⟨g2,cur,F',rfl,e1,hb,hL⟩
 ·rw [e1] at hk;cases hk
 ·have:=KT.leaf_F hL;subst this;subst e1;have:k=g2:=by simpa using hk
  subst this;rfl
theorem toProgRel_calls (kd:Int) (A1:Option Addr) (c1:Nat) (xa:List S338) (A2:Option Addr) (c2:Nat) (bs:List S338) (w:World) (h1:Kd.C k338 w A1 xa.length xa) (hc1:xa.length≤c1) (h2:Kd.C k338 w A2 bs.length bs) (hc2:bs.length≤c2) (hn1:xa.length<1099511627776) (hn2:bs.length<1099511627776) :
 Calls Tryz.prog 206 #[.agg #[.int .i64 kd,.slice A1 xa.length c1,.slice A2 bs.length c2]] w fun e w'=>∃ v1 v2 Fa Fb,e=.returned (.agg #[.int .i64 kd,v1,v2])∧tN.Row 102 w' Fa v1 (xa.map cN)∧tN.Row 102 w' Fb v2 (bs.map cN)∧(Fa++Fb).Nodup∧(∀ k,k∈Fa++Fb→w.heap.size≤k)∧Below w.heap.size w w':=by
 refine (laws_toProgRel.calls (xa.length+bs.length+1) kd A1 c1 xa A2 c2 bs kd (xa.map cN) (bs.map cN) w h1 hc1 h2 hc2 (toProgRel_f kd xa bs _ (by omega) (by omega) hn1 hn2)).mono ?_;rintro e w' ⟨v1,v2,rfl,r1,r2,hb⟩;obtain ⟨Fa,q1,n1,f1⟩:=KT.leaf_of_R (h:=k102_enc) (enc:=encN) (fun _ _ _ h=>k102_openM h) r1;obtain ⟨Fb,q2,n2,f2⟩:=KT.leaf_of_R (h:=k102_enc) (enc:=encN) (fun _ _ _ h=>k102_openM h) r2;refine ⟨v1,v2,Fa,Fb,rfl,q1,q2,List.nodup_append.2 ⟨n1,n2,fun a ha b hb' e=>?_⟩,fun k hk=>(List.mem_append.1 hk).elim (f1 k) (f2 k),hb⟩;subst e;exact r1.1 a (KT.leaf_own q1 a ha) (KT.leaf_own q2 a hb').symm
end Go.Proofs.YtbahacapnaohcaaGreatDoor.PB
namespace Go.Proofs.YtbahacapnaohcaaGreatDoor.PB
open Go.RowKit Go.Proofs.YtbahacapnaohcaaGreatDoorW.PrintWords Go.Proofs.YtbahacapnaohcaaGreatDoorW.PrintLast Go.Proofs.YtbahacapnaohcaaGreatDoorW.PrintMore
namespace KT
variable {α:Type} {t:KT α} {w w':World}
def Mk (t:KT α) (e:TypeId) (w:World) (b0 b1:Nat) (A:Option Addr) (n:Nat) (xs:List α) (P:List Nat):Prop:=
 (n=0∧xs=[]∧P=[]∧(A=none∨∃ b o,A=some ⟨b,o,none⟩))∨
 ∃ g cur cp cq,A=some ⟨g,0,none⟩∧w.heap[g]?=some (.cells cur e (0,0))∧cur.toList=cp++cq∧cp.length=xs.length * t.d.sz∧(n - xs.length) * t.d.sz≤cq.length∧t.L w xs P cp∧b0≤g∧g<b1∧P.Nodup∧(∀ p,p∈P→b1≤p)
theorem mk_start {e:Nat} {base:Nat} {ok:Nat→Prop} {v:Value} {zs:List α} (h:t.d.R e w base ok v zs):∃ A c,v=.slice A zs.length c∧zs.length≤c∧c≤9223372036854775807∧t.Mk e w base w.heap.size A zs.length [] []:=by
 obtain ⟨inner,ho⟩:=Kd.R_own h
 rcases ho.2 with ⟨rfl,h0⟩|⟨g,cap,cur,rfl,hb,hg,hn,hm,hs,ht⟩
 ·exact ⟨none,0,by rw [h0],by omega,by omega,.inl ⟨h0,rfl,rfl,.inl rfl⟩⟩
 ·refine ⟨_,cap,rfl,hn,by unfold maxLen at hm;omega,.inr ⟨g,cur,[],cur.toList,rfl,hg,rfl,by simp,?_,rfl,hb,(Array.getElem?_eq_some_iff.1 hg).1,List.nodup_nil,by simp⟩⟩
  show (zs.length - 0) * t.d.sz≤cur.toList.length
  have e1:cur.toList.length=cap * t.d.sz:=by rw [← hs];exact Array.length_toList
  rw [e1,Nat.sub_zero];exact Nat.mul_le_mul_right _ hn
theorem mk_end {e:TypeId} {b0 b1:Nat} {A:Option Addr} {c:Nat} {xs:List α} {P:List Nat} (h:t.Mk e w b0 b1 A xs.length xs P) (h1:xs.length≤c) (h2:c≤9223372036854775807) (hbb:b0≤b1) :
 ∃ F,t.Row e w F (.slice A xs.length c) xs∧F.Nodup∧∀ k,k∈F→b0≤k:=by
 rcases h with ⟨_,rfl,rfl,hA⟩|⟨g,cur,cp,cq,rfl,hg,hc,hl,hq,hL,hg0,hg1,hn,hP⟩
 ·exact ⟨[],⟨A,c,rfl,h1,h2,.inl ⟨rfl,rfl,hA⟩⟩,List.nodup_nil,by simp⟩
 ·refine ⟨g :: P,⟨_,c,rfl,h1,h2,.inr ⟨g,cur,P,rfl,rfl,hg,?_⟩⟩,List.nodup_cons.2 ⟨fun hm=>by have:=hP g hm;omega,hn⟩,fun k hk=>?_⟩
  ·rw [hc];exact L_prefix hL (by rw [← hl,List.take_left,List.take_of_length_le (by omega)])
  ·rcases List.mem_cons.1 hk with rfl|h
   ·exact hg0
   ·have:=hP k h;omega
theorem mk_put {e:TypeId} {w0 w':World} {b0 b1 g n:Nat} {xs:List α} {x:α} {P Fx:List Nat} {cp c cr:List Value} {cur':Array Value}
 (hL:t.L w0 xs P cp) (hcl:cp.length=xs.length * t.d.sz) (hq:(n - (xs.length+1)) * t.d.sz≤cr.length) (hT:t.T w' Fx x c) (hP:P.Nodup) (hP1:∀ p,p∈P→b1≤p) (hF:Fx.Nodup) (hF1:∀ p,p∈Fx→w0.heap.size≤p)
 (hb:b1≤w0.heap.size) (hg':w'.heap[g]?=some (.cells cur' e (0,0))) (hc:cur'.toList=cp++c++cr) (hg0:b0≤g) (hg1:g<b1) (hfr:∀ q,q<w0.heap.size→q≠g→w'.heap[q]?=w0.heap[q]?) :
 t.Mk e w' b0 b1 (some ⟨g,0,none⟩) n (xs++[x]) (P++Fx):=by
 refine .inr ⟨g,cur',cp++c,cr,rfl,hg',hc,?_,?_,?_,hg0,hg1,List.nodup_append.2 ⟨hP,hF,fun a ha b hb' e=>?_⟩,fun p hp=>?_⟩
 ·rw [List.length_append,hcl,T_len hT,List.length_append,List.length_singleton,Nat.succ_mul]
 ·rw [List.length_append,List.length_singleton];exact hq
 ·exact L_snoc (L_frame (fun k hk=>hfr k (L_lt hL k hk) (fun e=>by have:=hP1 k hk;omega)) hL) hcl hT
 ·subst e;have h1:=L_lt hL a ha;have h2:=hF1 a hb';omega
 ·rcases List.mem_append.1 hp with h|h
  ·exact hP1 p h
  ·have:=hF1 p h;omega
theorem set_three (cp r:List Value) (a b c a' b' c':Value) (n:Nat) (hn:cp.length=n):(((cp++(a :: b :: c :: r)).set n a').set (n+1) b').set (n+2) c'=cp++[a',b',c']++r:=by
 subst hn;rw [List.set_append_right _ _ (by omega),List.set_append_right _ _ (by omega),List.set_append_right _ _ (by omega)]
 simp
end KT
end Go.Proofs.YtbahacapnaohcaaGreatDoor.PB
namespace Go.Proofs.YtbahacapnaohcaaGreatDoor.PB
open Go.RowKit Go.Proofs.YtbahacapnaohcaaGreatDoorW.PrintWords Go.Proofs.YtbahacapnaohcaaGreatDoorW.PrintLast Go.Proofs.YtbahacapnaohcaaGreatDoorW.PrintMore
def cD (x:S232):S65:=⟨x.f0,x.f1,⟨x.f2.f0.map cN⟩⟩
theorem rdT232_get {l:List S232} {k:Nat} (h:k<l.length):rd_T232 l (k:Int)=l[k]:=by
 unfold rd_T232;rw [Int.toNat_natCast,List.getD_eq_getElem?_getD,List.getElem?_eq_getElem h];rfl
set_option maxHeartbeats 4000000 in
set_option maxRecDepth 100000 in
theorem toProgDefS_calls (A0:Option Addr) (c0:Nat) (xs:List S232) (w:World) (hr:Kd.C k232 w A0 xs.length xs) (hc:xs.length≤c0) (hn:xs.length<1099511627776) (hp:∀ x,x∈xs→x.f1.length<1099511627776∧x.f2.f0.length<1099511627776) :
 Calls Tryz.prog 100 #[.slice A0 xs.length c0] w fun e w'=>∃ v F,e=.returned v∧t65.Row 65 w' F v (xs.map cD)∧F.Nodup∧(∀ k,k∈F→w.heap.size≤k)∧Below w.heap.size w w':=by
 have HR:=am hr;have HP:=am hp;have HB0:=am (Below.refl w.heap.size w);clear hr hp;have hu65:=Tryz.underlying65;go_enter Tryz.func100,Tryz.ntmps100;go_wp2_with (first|((with_reducible refine gate_dst (N:=7) rfl ?_);refine Kd.R_make k65 (w0:=w) w.heap.size 65 rfl (N:=7) rfl 34 _ _ rfl (xs.length:Int) rfl rfl Tryz.underlying34 (.agg #[.string ⟨#[]⟩,.slice none 0 0,.slice none 0 0]) 64 info65 rfl (by decide) (by omega) z65 (ok:=fun _=>True) (okp:=fun _=>True) (k65_mkM _ _ _ z65 (Kd.R_nil _ _ _ _ _) (Kd.R_nil _ _ _ _ _)) (fun _ hk=>hk) trivial (by omega) (by omega) HB0.out (Nat.le_refl _) ?_;intro v3 w2 ho hb hg hnew;have HO:=am ho;have HB:=am hb;clear ho hb hg hnew HB0));obtain ⟨A,c,rfl,hac,hcm,hmk⟩:=KT.mk_start (t:=t65) HO.out;rw [show ((xs.length:Int)).toNat=xs.length by omega,List.length_replicate] at hmk hac ⊢;have hwb:w.heap.size≤w2.heap.size:=HB.out.size;obtain ⟨b1,hb1⟩:∃ b1,b1=w2.heap.size:=⟨_,rfl⟩;rw [← hb1] at hmk hwb;have HM:=am hmk;clear hmk HO
 go_loopw [4] (fun i wr=>∃ (j:Nat) (P:List Nat),j≤xs.length∧i=.int .i64 j∧Aside0 (t65.Mk 65 wr w.heap.size b1 A xs.length ((xs.map cD).take j) P)∧Aside0 (Below w.heap.size w wr)∧b1≤wr.heap.size) (fun i _=>xs.length - (intOf i).toNat)
 case atStart=>exact ⟨0,[],Nat.zero_le _,rfl,HM,HB,by omega⟩
 case round=>
  clear HM HB hb1;obtain ⟨j,P,hj,rfl,HM,HB,hb1⟩:=hrel
  by_cases hlt:j<xs.length
  ·obtain ⟨ad,B1,d1,B2,d2,e0,hx0,hx1,hx2,z1,z2,z3,z4⟩:=at_T232 HR.out (j:Int) (by omega) (by omega);subst e0;rw [rdT232_get hlt] at hx0 hx1 hx2 z1 z2 z3 z4;have hsz:=HP.out xs[j] (List.getElem_mem _);have hmap:(xs.map cD).take (j+1)=(xs.map cD).take j++[cD xs[j]]:=by rw [List.take_succ_eq_append_getElem (by simpa using hlt),List.getElem_map]
   have HMAP:=am hmap;clear hmap;replace hx0:=(pb HB.out hx0);replace hx1:=(pb HB.out hx1);replace hx2:=(pb HB.out hx2);simp only [Int.toNat_natCast] at hx0 hx1 hx2;have HC:=am (toProgDef_calls xs[j].f0 B1 d1 xs[j].f1 B2 d2 xs[j].f2.f0 wr (Kd.C_below z2 HB.out) z1 (Kd.C_below z4 HB.out) z3 hsz.1 hsz.2)
   rcases HM.out with ⟨h0,_⟩|⟨g,cur,cp,cq,rfl,hg,hcc,hcl,hcq,hL,hg0,hg1,hPn,hP1⟩
   ·omega
   have htl:((xs.map cD).take j).length=j:=by rw [List.length_take,List.length_map];omega
   rw [htl] at hcl hcq;obtain ⟨a0,a1,a2,cr,hcq3⟩:∃ a0 a1 a2 cr,cq=a0 :: a1 :: a2 :: cr:=by
    have h3:3≤cq.length:=by
     have:(xs.length - j) * 3≤cq.length:=hcq;omega
    match cq,h3 with
    | a :: b :: c :: d,_=>exact ⟨a,b,c,d,rfl⟩
   subst hcq3;have hcl3:cp.length=j * 3:=hcl;have hget:∀ i u,[a0,a1,a2][i]?=some u→cur[j * 3+i]?=some u:=fun i u hi=>by
    have hi3:i<3:=(List.getElem?_eq_some_iff.1 hi).1;rw [← Array.getElem?_toList,hcc,← hcl3,List.getElem?_append_right (by omega),Nat.add_sub_cancel_left]
    match i,hi3,hi with
    | 0,_,hi=>exact hi
    | 1,_,hi=>exact hi
    | 2,_,hi=>exact hi
   have hk0:=hget 0 _ rfl;have hk1:=hget 1 _ rfl;have hk2:=hget 2 _ rfl;have HCC:=am hcc;have HCL:=am hcl3;have HLL:=am hL;have HCQ:Aside0 ((xs.length - j) * 3≤(a0 :: a1 :: a2 :: cr).length):=⟨hcq⟩;clear hget hcc hcl hcl3 hcq HM htl;generalize hyy:xs[j]=y at *;clear hyy hsz z1 z2 z3 z4;go_wp2_with (omega);refine HC.out.mono ?_;rintro e w3 ⟨v1,v2,Fa,Fb,rfl,ra,rb,hnd,hfr,hb⟩;have hg3:=(hb.block _ (Array.getElem?_eq_some_iff.1 hg).1).trans hg;have hy0:w3.cell? ⟨g,j * 3,none⟩=some a0:=(blk_cell hg3 _).trans hk0;have hy1:w3.cell? ⟨g,j * 3+1,none⟩=some a1:=(blk_cell hg3 _).trans hk1;have hy2:w3.cell? ⟨g,j * 3+2,none⟩=some a2:=(blk_cell hg3 _).trans hk2;have hf0:=blk_frozen hg3 (j * 3);have hf1:=blk_frozen hg3 (j * 3+1);have hf2:=blk_frozen hg3 (j * 3+2);have HRA:=am ra;have HRB:=am rb;have HND:=am hnd;have HFR:=am hfr;have HB3:=am hb;have HG3:=am hg3;have HG:=am hg;have HL:=am hL;have HP1:=am (And.intro hPn hP1);obtain ⟨X1,k1,rfl,_⟩:=ra;obtain ⟨X2,k2,rfl,_⟩:=rb;clear hnd hfr hb hg3 hg hL hPn hP1 hk0 hk1 hk2 hx0 hx1 hx2 HC;go_wp2_with (omega)
   go_roundw
   case measure=>simp [intOf];omega
   case rel=>
    obtain ⟨wF,hwF⟩:∃ wF,wF=(((w3.setCell ⟨g,j * 3,none⟩ (.string y.f0)).setCell ⟨g,j * 3+1,none⟩ (.slice X1 y.f1.length k1)).setCell ⟨g,j * 3+2,none⟩ (.slice X2 (y.f2.f0.map cN).length k2)):=⟨_,rfl⟩;have hwF':=hwF;rw [List.length_map] at hwF';rw [← hwF'];clear hwF';have hgF:=blk_set (blk_set (blk_set HG3.out (j * 3) (.string y.f0)) (j * 3+1) (.slice X1 y.f1.length k1)) (j * 3+2) (.slice X2 (y.f2.f0.map cN).length k2);rw [← hwF] at hgF;have hne:∀ q,q≠g→wF.heap[q]?=w3.heap[q]?:=fun q hq=>by rw [hwF];exact (Below.heap_setCell _ _ _ _ hq).trans ((Below.heap_setCell _ _ _ _ hq).trans (Below.heap_setCell _ _ _ _ hq))
    have hsz:wF.heap.size=w3.heap.size:=by rw [hwF];simp [World.setCell]
    have hglt:g<wr.heap.size:=(Array.getElem?_eq_some_iff.1 HG.out).1;have hnd:=List.nodup_append.1 HND.out;have hFa:∀ q,q∈Fa→q≠g:=fun q hq e=>by have:=HFR.out q (by simp [hq]);omega
    have hFb:∀ q,q∈Fb→q≠g:=fun q hq e=>by have:=HFR.out q (by simp [hq]);omega
    have hT:t65.T wF (Fa++Fb) (cD y) [.string y.f0,.slice X1 y.f1.length k1,.slice X2 (y.f2.f0.map cN).length k2]:=
     ⟨Fa,Fb,_,_,rfl,rfl,KT.Row_frame (fun q hq=>hne q (hFa q hq)) HRA.out,KT.Row_frame (fun q hq=>hne q (hFb q hq)) HRB.out⟩
    have htl:((xs.map cD).take j).length=j:=by rw [List.length_take,List.length_map];omega
    refine ⟨j+1,P++(Fa++Fb),by omega,by go_num,⟨?_⟩,⟨?_⟩,?_⟩
    ·rw [HMAP.out];refine KT.mk_put (w0:=wr) (cr:=cr) HL.out (by rw [htl];exact HCL.out) (by have:=HCQ.out;rw [htl];show (xs.length - (j+1)) * 3≤cr.length;simp only [List.length_cons] at this;omega) hT HP1.out.1 HP1.out.2 HND.out HFR.out hb1 hgF ?_ hg0 hg1 (fun q h1 h2=>(hne q h2).trans (HB3.out.block q h1));rw [Array.toList_setIfInBounds,Array.toList_setIfInBounds,Array.toList_setIfInBounds,HCC.out];exact KT.set_three _ _ _ _ _ _ _ _ _ HCL.out
    ·have hb3:Below w.heap.size w w3:=below_step (w:=w) HB.out HB3.out;rw [hwF];exact ((hb3.setCell hg0 _).setCell hg0 _).setCell hg0 _
    ·have:=HB3.out.size;omega
  ·have e1:j=xs.length:=by omega
   subst e1;have hml:((xs.map cD).take xs.length)=xs.map cD:=List.take_of_length_le (by simp);have hM:=HM.out;rw [hml] at hM;have hlen:(xs.map cD).length=xs.length:=List.length_map ..;rw [← hlen] at hM;obtain ⟨F,r1,r2,r3⟩:=KT.mk_end (c:=c) hM (by rw [hlen];exact hac) hcm hwb;rw [hlen] at r1;have HF:=am (And.intro r1 (And.intro r2 r3));clear hM hml hlen r1 r2 r3;go_wp2_with (omega);go_ret;exact ⟨_,F,rfl,HF.out.1,HF.out.2.1,HF.out.2.2,HB.out⟩
end Go.Proofs.YtbahacapnaohcaaGreatDoor.PB
namespace Go.Proofs.YtbahacapnaohcaaGreatDoor.PB
open Go.RowKit Go.Proofs.YtbahacapnaohcaaGreatDoorW.PrintWords Go.Proofs.YtbahacapnaohcaaGreatDoorW.PrintLast Go.Proofs.YtbahacapnaohcaaGreatDoorW.PrintMore
def cR (x:S235):S63:=⟨x.f0,⟨x.f1.f0.map cN⟩,⟨x.f2.f0.map cN⟩⟩
theorem rdT235_get {l:List S235} {k:Nat} (h:k<l.length):rd_T235 l (k:Int)=l[k]:=by
 unfold rd_T235;rw [Int.toNat_natCast,List.getD_eq_getElem?_getD,List.getElem?_eq_getElem h];rfl
set_option maxHeartbeats 4000000 in
set_option maxRecDepth 100000 in
theorem toProgRelS_calls (A0:Option Addr) (c0:Nat) (xs:List S235) (w:World) (hr:Kd.C k235 w A0 xs.length xs) (hc:xs.length≤c0) (hn:xs.length<1099511627776) (hp:∀ x,x∈xs→x.f1.f0.length<1099511627776∧x.f2.f0.length<1099511627776) :
 Calls Tryz.prog 102 #[.slice A0 xs.length c0] w fun e w'=>∃ v F,e=.returned v∧t63.Row 63 w' F v (xs.map cR)∧F.Nodup∧(∀ k,k∈F→w.heap.size≤k)∧Below w.heap.size w w':=by
 have HR:=am hr;have HP:=am hp;have HB0:=am (Below.refl w.heap.size w);clear hr hp;have hu63:=Tryz.underlying63;go_enter Tryz.func102,Tryz.ntmps102;go_wp2_with (first|((with_reducible refine gate_dst (N:=7) rfl ?_);refine Kd.R_make k63 (w0:=w) w.heap.size 63 rfl (N:=7) rfl 36 _ _ rfl (xs.length:Int) rfl rfl Tryz.underlying36 (.agg #[.int .i64 0,.slice none 0 0,.slice none 0 0]) 56 info63 rfl (by decide) (by omega) z63 (ok:=fun _=>True) (okp:=fun _=>True) (k63_mkM _ _ _ z63 (Kd.R_nil _ _ _ _ _) (Kd.R_nil _ _ _ _ _)) (fun _ hk=>hk) trivial (by omega) (by omega) HB0.out (Nat.le_refl _) ?_;intro v3 w2 ho hb hg hnew;have HO:=am ho;have HB:=am hb;clear ho hb hg hnew HB0));obtain ⟨A,c,rfl,hac,hcm,hmk⟩:=KT.mk_start (t:=t63) HO.out;rw [show ((xs.length:Int)).toNat=xs.length by omega,List.length_replicate] at hmk hac ⊢;have hwb:w.heap.size≤w2.heap.size:=HB.out.size;obtain ⟨b1,hb1⟩:∃ b1,b1=w2.heap.size:=⟨_,rfl⟩;rw [← hb1] at hmk hwb;have HM:=am hmk;clear hmk HO
 go_loopw [4] (fun i wr=>∃ (j:Nat) (P:List Nat),j≤xs.length∧i=.int .i64 j∧Aside0 (t63.Mk 63 wr w.heap.size b1 A xs.length ((xs.map cR).take j) P)∧Aside0 (Below w.heap.size w wr)∧b1≤wr.heap.size) (fun i _=>xs.length - (intOf i).toNat)
 case atStart=>exact ⟨0,[],Nat.zero_le _,rfl,HM,HB,by omega⟩
 case round=>
  clear HM HB hb1;obtain ⟨j,P,hj,rfl,HM,HB,hb1⟩:=hrel
  by_cases hlt:j<xs.length
  ·obtain ⟨ad,B1,d1,B2,d2,e0,hx0,hx1,hx2,z1,z2,z3,z4⟩:=at_T235 HR.out (j:Int) (by omega) (by omega);subst e0;rw [rdT235_get hlt] at hx0 hx1 hx2 z1 z2 z3 z4;have hsz:=HP.out xs[j] (List.getElem_mem _);have hmap:(xs.map cR).take (j+1)=(xs.map cR).take j++[cR xs[j]]:=by rw [List.take_succ_eq_append_getElem (by simpa using hlt),List.getElem_map]
   have HMAP:=am hmap;clear hmap;replace hx0:=(pb HB.out hx0);replace hx1:=(pb HB.out hx1);replace hx2:=(pb HB.out hx2);simp only [Int.toNat_natCast] at hx0 hx1 hx2;have HC:=am (toProgRel_calls xs[j].f0 B1 d1 xs[j].f1.f0 B2 d2 xs[j].f2.f0 wr (Kd.C_below z2 HB.out) z1 (Kd.C_below z4 HB.out) z3 hsz.1 hsz.2)
   rcases HM.out with ⟨h0,_⟩|⟨g,cur,cp,cq,rfl,hg,hcc,hcl,hcq,hL,hg0,hg1,hPn,hP1⟩
   ·omega
   have htl:((xs.map cR).take j).length=j:=by rw [List.length_take,List.length_map];omega
   rw [htl] at hcl hcq;obtain ⟨a0,a1,a2,cr,hcq3⟩:∃ a0 a1 a2 cr,cq=a0 :: a1 :: a2 :: cr:=by
    have h3:3≤cq.length:=by
     have:(xs.length - j) * 3≤cq.length:=hcq;omega
    match cq,h3 with
    | a :: b :: c :: d,_=>exact ⟨a,b,c,d,rfl⟩
   subst hcq3;have hcl3:cp.length=j * 3:=hcl;have hget:∀ i u,[a0,a1,a2][i]?=some u→cur[j * 3+i]?=some u:=fun i u hi=>by
    have hi3:i<3:=(List.getElem?_eq_some_iff.1 hi).1;rw [← Array.getElem?_toList,hcc,← hcl3,List.getElem?_append_right (by omega),Nat.add_sub_cancel_left]
    match i,hi3,hi with
    | 0,_,hi=>exact hi
    | 1,_,hi=>exact hi
    | 2,_,hi=>exact hi
   have hk0:=hget 0 _ rfl;have hk1:=hget 1 _ rfl;have hk2:=hget 2 _ rfl;have HCC:=am hcc;have HCL:=am hcl3;have HLL:=am hL;have HCQ:Aside0 ((xs.length - j) * 3≤(a0 :: a1 :: a2 :: cr).length):=⟨hcq⟩;clear hget hcc hcl hcl3 hcq HM htl;generalize hyy:xs[j]=y at *;clear hyy hsz z1 z2 z3 z4;go_wp2_with (omega);refine HC.out.mono ?_;rintro e w3 ⟨v1,v2,Fa,Fb,rfl,ra,rb,hnd,hfr,hb⟩;have hg3:=(hb.block _ (Array.getElem?_eq_some_iff.1 hg).1).trans hg;have hy0:w3.cell? ⟨g,j * 3,none⟩=some a0:=(blk_cell hg3 _).trans hk0;have hy1:w3.cell? ⟨g,j * 3+1,none⟩=some a1:=(blk_cell hg3 _).trans hk1;have hy2:w3.cell? ⟨g,j * 3+2,none⟩=some a2:=(blk_cell hg3 _).trans hk2;have hf0:=blk_frozen hg3 (j * 3);have hf1:=blk_frozen hg3 (j * 3+1);have hf2:=blk_frozen hg3 (j * 3+2);have HRA:=am ra;have HRB:=am rb;have HND:=am hnd;have HFR:=am hfr;have HB3:=am hb;have HG3:=am hg3;have HG:=am hg;have HL:=am hL;have HP1:=am (And.intro hPn hP1);obtain ⟨X1,k1,rfl,_⟩:=ra;obtain ⟨X2,k2,rfl,_⟩:=rb;clear hnd hfr hb hg3 hg hL hPn hP1 hk0 hk1 hk2 hx0 hx1 hx2 HC;go_wp2_with (omega)
   go_roundw
   case measure=>simp [intOf];omega
   case rel=>
    obtain ⟨wF,hwF⟩:∃ wF,wF=(((w3.setCell ⟨g,j * 3,none⟩ (.int .i64 y.f0)).setCell ⟨g,j * 3+1,none⟩ (.slice X1 (y.f1.f0.map cN).length k1)).setCell ⟨g,j * 3+2,none⟩ (.slice X2 (y.f2.f0.map cN).length k2)):=⟨_,rfl⟩;have hwF':=hwF;rw [List.length_map,List.length_map] at hwF';rw [← hwF'];clear hwF';have hgF:=blk_set (blk_set (blk_set HG3.out (j * 3) (.int .i64 y.f0)) (j * 3+1) (.slice X1 (y.f1.f0.map cN).length k1)) (j * 3+2) (.slice X2 (y.f2.f0.map cN).length k2);rw [← hwF] at hgF;have hne:∀ q,q≠g→wF.heap[q]?=w3.heap[q]?:=fun q hq=>by rw [hwF];exact (Below.heap_setCell _ _ _ _ hq).trans ((Below.heap_setCell _ _ _ _ hq).trans (Below.heap_setCell _ _ _ _ hq))
    have hsz:wF.heap.size=w3.heap.size:=by rw [hwF];simp [World.setCell]
    have hglt:g<wr.heap.size:=(Array.getElem?_eq_some_iff.1 HG.out).1;have hnd:=List.nodup_append.1 HND.out;have hFa:∀ q,q∈Fa→q≠g:=fun q hq e=>by have:=HFR.out q (by simp [hq]);omega
    have hFb:∀ q,q∈Fb→q≠g:=fun q hq e=>by have:=HFR.out q (by simp [hq]);omega
    have hT:t63.T wF (Fa++Fb) (cR y) [.int .i64 y.f0,.slice X1 (y.f1.f0.map cN).length k1,.slice X2 (y.f2.f0.map cN).length k2]:=
     ⟨Fa,Fb,_,_,rfl,rfl,KT.Row_frame (fun q hq=>hne q (hFa q hq)) HRA.out,KT.Row_frame (fun q hq=>hne q (hFb q hq)) HRB.out⟩
    have htl:((xs.map cR).take j).length=j:=by rw [List.length_take,List.length_map];omega
    refine ⟨j+1,P++(Fa++Fb),by omega,by go_num,⟨?_⟩,⟨?_⟩,?_⟩
    ·rw [HMAP.out];refine KT.mk_put (w0:=wr) (cr:=cr) HL.out (by rw [htl];exact HCL.out) (by have:=HCQ.out;rw [htl];show (xs.length - (j+1)) * 3≤cr.length;simp only [List.length_cons] at this;omega) hT HP1.out.1 HP1.out.2 HND.out HFR.out hb1 hgF ?_ hg0 hg1 (fun q h1 h2=>(hne q h2).trans (HB3.out.block q h1));rw [Array.toList_setIfInBounds,Array.toList_setIfInBounds,Array.toList_setIfInBounds,HCC.out];exact KT.set_three _ _ _ _ _ _ _ _ _ HCL.out
    ·have hb3:Below w.heap.size w w3:=below_step (w:=w) HB.out HB3.out;rw [hwF];exact ((hb3.setCell hg0 _).setCell hg0 _).setCell hg0 _
    ·have:=HB3.out.size;omega
  ·have e1:j=xs.length:=by omega
   subst e1;have hml:((xs.map cR).take xs.length)=xs.map cR:=List.take_of_length_le (by simp);have hM:=HM.out;rw [hml] at hM;have hlen:(xs.map cR).length=xs.length:=List.length_map ..;rw [← hlen] at hM;obtain ⟨F,r1,r2,r3⟩:=KT.mk_end (c:=c) hM (by rw [hlen];exact hac) hcm hwb;rw [hlen] at r1;have HF:=am (And.intro r1 (And.intro r2 r3));clear hM hml hlen r1 r2 r3;go_wp2_with (omega);go_ret;exact ⟨_,F,rfl,HF.out.1,HF.out.2.1,HF.out.2.2,HB.out⟩
end Go.Proofs.YtbahacapnaohcaaGreatDoor.PB
namespace Go.Proofs.YtbahacapnaohcaaGreatDoor.PB
open Go.RowKit Go.Proofs.YtbahacapnaohcaaGreatDoorW.PrintWords Go.Proofs.YtbahacapnaohcaaGreatDoorW.PrintLast Go.Proofs.YtbahacapnaohcaaGreatDoorW.PrintMore
theorem toStringS_calls (A:Option Addr) (c:Nat) (ps:List ByteArray) (w:World) (h1:Kd.C Kd.string w A ps.length ps) (hc1:ps.length≤c) (hn:ps.length<1099511627776) :
 Calls Tryz.prog 101 #[.slice A ps.length c] w fun e w'=>∃ v F,e=.returned v∧tS.Row 9 w' F v ps∧F.Nodup∧(∀ k,k∈F→w.heap.size≤k)∧Below w.heap.size w w':=by
 refine (laws_toStringS.calls (ps.length+1) A c ps ps w h1 hc1 (toStringS_f ps _ (by omega) hn)).mono ?_;rintro e w' ⟨v1,rfl,r1,hb⟩;obtain ⟨Fa,q1,n1,f1⟩:=KT.leaf_of_R (h:=fun _ _=>rfl) (enc:=fun x=>[Value.string x]) (fun _ _ _ h=>h) r1;exact ⟨v1,Fa,rfl,q1,n1,f1,hb⟩
structure QRd (w:World) (A0:Option Addr) (c0:Nat) (q0:List S232) (A1:Option Addr) (c1:Nat) (q1:List ByteArray) (A2:Option Addr) (c2:Nat) (q2:List S235):Prop where
 r0:Kd.C k232 w A0 q0.length q0
 h0:q0.length≤c0
 r1:Kd.C Kd.string w A1 q1.length q1
 h1:q1.length≤c1
 r2:Kd.C k235 w A2 q2.length q2
 h2:q2.length≤c2
theorem QRd.below {w w':World} {A0 c0 q0 A1 c1 q1 A2 c2 q2} (h:QRd w A0 c0 q0 A1 c1 q1 A2 c2 q2) (hb:Below w.heap.size w w'):QRd w' A0 c0 q0 A1 c1 q1 A2 c2 q2:=
 ⟨Kd.C_below h.r0 hb,h.h0,Kd.C_below h.r1 hb,h.h1,Kd.C_below h.r2 hb,h.h2⟩
structure SizedQ (q0:List S232) (q1:List ByteArray) (q2:List S235):Prop where
 n0:q0.length<1099511627776
 n1:q1.length<1099511627776
 n2:q2.length<1099511627776
 d0:∀ x,x∈q0→x.f1.length<1099511627776∧x.f2.f0.length<1099511627776
 d2:∀ x,x∈q2→x.f1.f0.length<1099511627776∧x.f2.f0.length<1099511627776
theorem heap_new (w:World) (o:Obj):(w.alloc o).heap[w.heap.size]?=some o:=by simp [World.alloc,-World.alloc_eq]
theorem heap_old {w:World} {q:Nat} {x:Obj} (o:Obj) (h:w.heap[q]?=some x):(w.alloc o).heap[q]?=some x:=by
 have:=(Array.getElem?_eq_some_iff.1 h).1;simp only [World.alloc,Array.getElem?_push,if_neg (show ¬ q=w.heap.size by omega)];exact h
theorem size_alloc (w:World) (o:Obj):(w.alloc o).heap.size=w.heap.size+1:=by simp [World.alloc,-World.alloc_eq]
set_option maxHeartbeats 4000000 in
set_option maxRecDepth 100000 in
theorem toProg_calls (A0:Option Addr) (c0:Nat) (q0:List S232) (A1:Option Addr) (c1:Nat) (q1:List ByteArray) (A2:Option Addr) (c2:Nat) (q2:List S235) (w:World) (hQ:QRd w A0 c0 q0 A1 c1 q1 A2 c2 q2) (hZ:SizedQ q0 q1 q2) :
 Calls Tryz.prog 35 #[.agg #[.slice A0 q0.length c0,.slice A1 q1.length c1,.slice A2 q2.length c2]] w fun e w'=>∃ v F,e=.returned v∧PT w' F v (q0.map cD) q1 (q2.map cR)∧F.Nodup∧(∀ k,k∈F→w.heap.size≤k)∧Below w.heap.size w w':=by
 have HQ:=am hQ;have HZ:=am hZ;clear hQ hZ;have hu52:=Tryz.underlying52;have hu38:=Tryz.underlying38;go_enter Tryz.func35,Tryz.ntmps35;obtain ⟨b,hbb⟩:∃ b,b=w.heap.size:=⟨_,rfl⟩;obtain ⟨W3,hW3⟩:∃ W3,W3=((w.alloc (.cells #[.slice A0 q0.length c0,.slice A1 q1.length c1,.slice A2 q2.length c2] 52)).alloc (.cells #[.slice none 0 0,.slice none 0 0,.slice none 0 0] 38)).alloc (.cells #[.slice none 0 0,.slice none 0 0,.slice none 0 0] 38):=⟨_,rfl⟩;have hs3:W3.heap.size=b+1+1+1:=by rw [hW3,hbb,size_alloc,size_alloc,size_alloc]
 have hz0:W3.heap[b]?=some (.cells #[.slice A0 q0.length c0,.slice A1 q1.length c1,.slice A2 q2.length c2] 52):=by rw [hW3,hbb];exact heap_old _ (heap_old _ (heap_new _ _))
 have hz1:W3.heap[b+1]?=some (.cells #[.slice none 0 0,.slice none 0 0,.slice none 0 0] 38):=by rw [hW3,hbb,← size_alloc];exact heap_old _ (heap_new _ _)
 have hz2:W3.heap[b+1+1]?=some (.cells #[.slice none 0 0,.slice none 0 0,.slice none 0 0] 38):=by rw [hW3,hbb,← size_alloc,← size_alloc];exact heap_new _ _
 have hB3:Below b w W3:=by rw [hW3,hbb];exact (((Below.refl _ _).alloc (Nat.le_refl _) _).alloc (by simp) _).alloc (by simp;omega) _
 have HB3:=am hB3;have HW3:=am hW3;have HS3:=am hs3;have HBB:=am hbb;have HZ3:=am (And.intro hz0 (And.intro hz1 hz2));have HQ3:=am (HQ.out.below (hbb ▸ hB3));clear hW3 hs3 hbb hB3 hz0 hz1 hz2;go_wp2_with fail;rw [← HW3.out,← HBB.out];refine (toProgDefS_calls A0 c0 q0 W3 HQ3.out.r0 HQ3.out.h0 HZ.out.n0 HZ.out.d0).mono ?_;rintro e w1 ⟨v0,F0,rfl,r0,n0,f0,hb⟩;have hg0:=(hb.block b (by rw [HS3.out];omega)).trans HZ3.out.1;have hg1:=(hb.block (b+1) (by rw [HS3.out];omega)).trans HZ3.out.2.1;have hg2:=(hb.block (b+1+1) (by rw [HS3.out];omega)).trans HZ3.out.2.2;obtain ⟨w2,hw2⟩:∃ w2,w2=w1.setCell ⟨b+1+1,0,none⟩ v0:=⟨_,rfl⟩;have hk2:∀ q,q≠b+1+1→w2.heap[q]?=w1.heap[q]?:=fun q hq=>by rw [hw2];exact Below.heap_setCell _ _ _ _ hq
 have hs1:b+1+1+1≤w1.heap.size:=by have:=hb.size;rw [HS3.out] at this;exact this
 have hs2:w2.heap.size=w1.heap.size:=by rw [hw2];simp [World.setCell]
 have f0':∀ q,q∈F0→b+1+1+1≤q:=fun q hq=>by have:=f0 q hq;rw [HS3.out] at this;exact this
 have hh0:w2.heap[b]?=_:=(hk2 b (by omega)).trans hg0;have hh1:w2.heap[b+1]?=_:=(hk2 (b+1) (by omega)).trans hg1;have hh2:w2.heap[b+1+1]?=some (.cells #[v0,.slice none 0 0,.slice none 0 0] 38):=by rw [hw2];exact blk_put hg2 0 _ rfl
 have r0':t65.Row 65 w2 F0 v0 (q0.map cD):=KT.Row_frame (fun q hq=>hk2 q (fun e=>by have:=f0' q hq;omega)) r0;have hB2:Below b w w2:=by rw [hw2];exact (below_step (w:=w) (HBB.out ▸ HB3.out) hb |> fun h=>(HBB.out ▸ h:Below b w w1)).setCell (show b≤b+1+1 by omega) _
 have hx0:w1.cell? ⟨b,0,none⟩=some (.slice A0 q0.length c0):=(blk_cell hg0 0).trans rfl;have hy0:w1.cell? ⟨b+1+1,0,none⟩=some (.slice none 0 0):=(blk_cell hg2 0).trans rfl;have hf0:=blk_frozen hg2 0;have hx1:(w1.setCell ⟨b+1+1,0,none⟩ v0).cell? ⟨b,1,none⟩=some (.slice A1 q1.length c1):=by rw [← hw2];exact (blk_cell hh0 1).trans rfl
 obtain ⟨X0,k0,e0,_⟩:=id r0;rw [List.length_map] at e0;subst e0;have HW2:=am hw2;have HR0:=am (And.intro r0' (And.intro n0 f0'));have HB2:=am hB2;have HS2:=am (And.intro hs2 hs1);have HH2:=am (And.intro hh0 (And.intro hh1 hh2));clear hw2 hk2 hs1 hs2 f0 f0' r0 r0' n0 hB2 hh0 hh1 hh2 hb hg0 hg1 hg2;have HQ2:=am (HQ.out.below (HBB.out ▸ HB2.out));go_wp2_with fail;rw [← HW2.out];refine (toStringS_calls A1 c1 q1 w2 HQ2.out.r1 HQ2.out.h1 HZ.out.n1).mono ?_;rintro e w3 ⟨v1,F1,rfl,r1,n1,f1,hb⟩;have hg0:=(hb.block b (by have:=HS2.out;omega)).trans HH2.out.1;have hg1:=(hb.block (b+1) (by have:=HS2.out;omega)).trans HH2.out.2.1;have hg2:=(hb.block (b+1+1) (by have:=HS2.out;omega)).trans HH2.out.2.2;obtain ⟨w4,hw4⟩:∃ w4,w4=w3.setCell ⟨b+1+1,1,none⟩ v1:=⟨_,rfl⟩;have hk4:∀ q,q≠b+1+1→w4.heap[q]?=w3.heap[q]?:=fun q hq=>by rw [hw4];exact Below.heap_setCell _ _ _ _ hq
 have hs3:w2.heap.size≤w3.heap.size:=hb.size;have hs4:w4.heap.size=w3.heap.size:=by rw [hw4];simp [World.setCell]
 have f1':∀ q,q∈F1→b+1+1+1≤q:=fun q hq=>by have:=f1 q hq;have:=HS2.out;omega
 have hh0:w4.heap[b]?=_:=(hk4 b (by omega)).trans hg0;have hh1:w4.heap[b+1]?=_:=(hk4 (b+1) (by omega)).trans hg1;have hh2:w4.heap[b+1+1]?=some (.cells #[.slice X0 q0.length k0,v1,.slice none 0 0] 38):=by rw [hw4];exact blk_put hg2 1 _ rfl
 have r0':t65.Row 65 w4 F0 (.slice X0 q0.length k0) (q0.map cD):=KT.Row_frame (fun q hq=>(hk4 q (fun e=>by have:=HR0.out.2.2 q hq;omega)).trans (hb.block q (KT.Row_lt HR0.out.1 q hq))) HR0.out.1;have r1':tS.Row 9 w4 F1 v1 q1:=KT.Row_frame (fun q hq=>hk4 q (fun e=>by have:=f1' q hq;omega)) r1;have hB4:Below b w w4:=by rw [hw4];exact (HBB.out ▸ below_step (w:=w) (HBB.out ▸ HB2.out) hb:Below b w w3).setCell (show b≤b+1+1 by omega) _
 have d01:∀ q,q∈F0→q∉F1:=fun q h1 h2=>by have:=KT.Row_lt HR0.out.1 q h1;have:=f1 q h2;omega
 have hx2:w3.cell? ⟨b+1+1,1,none⟩=some (.slice none 0 0):=(blk_cell hg2 1).trans rfl;have hf2:=blk_frozen hg2 1;have hx3:(w3.setCell ⟨b+1+1,1,none⟩ v1).cell? ⟨b,2,none⟩=some (.slice A2 q2.length c2):=by rw [← hw4];exact (blk_cell hh0 2).trans rfl
 obtain ⟨X1,k1,rfl,_⟩:=id r1;have HW4:=am hw4;have HR4:=am (And.intro r0' (And.intro r1' (And.intro n1 (And.intro f1' d01))));have HB4:=am hB4;have HS4:=am (And.intro hs4 hs3);have HH4:=am (And.intro hh0 (And.intro hh1 hh2));clear hw4 hk4 hs3 hs4 f1 f1' r1 r1' r0' n1 d01 hB4 hh0 hh1 hh2 hb hg0 hg1 hg2 HW2 hx0 hx1 hy0 hf0;have HQ4:=am (HQ.out.below (HBB.out ▸ HB4.out));go_wp2_with fail;rw [← HW4.out];refine (toProgRelS_calls A2 c2 q2 w4 HQ4.out.r2 HQ4.out.h2 HZ.out.n2 HZ.out.d2).mono ?_;rintro e w5 ⟨v2,F2,rfl,r2,n2,f2,hb⟩;have hg1:=(hb.block (b+1) (by have:=HS2.out;have:=HS4.out;omega)).trans HH4.out.2.1;have hg2:=(hb.block (b+1+1) (by have:=HS2.out;have:=HS4.out;omega)).trans HH4.out.2.2;have e0:=HR4.out.1;have e1:=HR4.out.2.1;obtain ⟨X2,k2,ee,_⟩:=id r2;rw [List.length_map] at ee;subst ee;obtain ⟨w6,hw6⟩:∃ w6,w6=w5.setCell ⟨b+1+1,2,none⟩ (.slice X2 q2.length k2):=⟨_,rfl⟩;have hh2:w6.heap[b+1+1]?=some (.cells #[.slice X0 q0.length k0,.slice X1 q1.length k1,.slice X2 q2.length k2] 38):=by rw [hw6];exact blk_put hg2 2 _ rfl
 have hh1:w6.heap[b+1]?=some (.cells #[.slice none 0 0,.slice none 0 0,.slice none 0 0] 38):=by rw [hw6];exact (Below.heap_setCell _ _ _ _ (by simp)).trans hg1
 have hy2:w5.cell? ⟨b+1+1,2,none⟩=some (.slice none 0 0):=(blk_cell hg2 2).trans rfl;have hf2':=blk_frozen hg2 2;have hp0:(w5.setCell ⟨b+1+1,2,none⟩ (.slice X2 q2.length k2)).cell? ⟨b+1+1,0,none⟩=some (.slice X0 q0.length k0):=by rw [← hw6];exact (blk_cell hh2 0).trans rfl
 have hp1:(w5.setCell ⟨b+1+1,2,none⟩ (.slice X2 q2.length k2)).cell? ⟨b+1+1,1,none⟩=some (.slice X1 q1.length k1):=by rw [← hw6];exact (blk_cell hh2 1).trans rfl
 have hp2:(w5.setCell ⟨b+1+1,2,none⟩ (.slice X2 q2.length k2)).cell? ⟨b+1+1,2,none⟩=some (.slice X2 q2.length k2):=by rw [← hw6];exact (blk_cell hh2 2).trans rfl
 have hr0:(w5.setCell ⟨b+1+1,2,none⟩ (.slice X2 q2.length k2)).cell? ⟨b+1,0,none⟩=some (.slice none 0 0):=by rw [← hw6];exact (blk_cell hh1 0).trans rfl
 have hr1:(w5.setCell ⟨b+1+1,2,none⟩ (.slice X2 q2.length k2)).cell? ⟨b+1,1,none⟩=some (.slice none 0 0):=by rw [← hw6];exact (blk_cell hh1 1).trans rfl
 have hr2:(w5.setCell ⟨b+1+1,2,none⟩ (.slice X2 q2.length k2)).cell? ⟨b+1,2,none⟩=some (.slice none 0 0):=by rw [← hw6];exact (blk_cell hh1 2).trans rfl
 have hq0:(w5.setCell ⟨b+1+1,2,none⟩ (.slice X2 q2.length k2)).frozen? ⟨b+1,0,none⟩=false:=by rw [← hw6];exact blk_frozen hh1 0
 have hq1:(w5.setCell ⟨b+1+1,2,none⟩ (.slice X2 q2.length k2)).frozen? ⟨b+1,1,none⟩=false:=by rw [← hw6];exact blk_frozen hh1 1
 have hq2:(w5.setCell ⟨b+1+1,2,none⟩ (.slice X2 q2.length k2)).frozen? ⟨b+1,2,none⟩=false:=by rw [← hw6];exact blk_frozen hh1 2
 have HW6:=am hw6;have HR2:=am (And.intro r2 (And.intro n2 (And.intro f2 hb)));have HH6:=am (And.intro hh1 hh2);clear hw6 r2 n2 f2 hb hh1 hh2 hg1 hg2 HW4 hx2 hx3 hf2 e0 e1;go_wp2_with fail;rw [← HW6.out];obtain ⟨wF,hwF⟩:∃ wF,wF=(((w6.setCell ⟨b+1,0,none⟩ (.slice X0 q0.length k0)).setCell ⟨b+1,1,none⟩ (.slice X1 q1.length k1)).setCell ⟨b+1,2,none⟩ (.slice X2 q2.length k2)):=⟨_,rfl⟩;have hF:wF.heap[b+1]?=some (.cells #[.slice X0 q0.length k0,.slice X1 q1.length k1,.slice X2 q2.length k2] 38):=by rw [hwF];exact blk_put (blk_put (blk_put HH6.out.1 0 _ rfl) 1 _ rfl) 2 _ rfl
 have hkF:∀ q,q≠b+1→q≠b+1+1→wF.heap[q]?=w5.heap[q]?:=fun q h1 h2=>by
  rw [hwF];exact (Below.heap_setCell _ _ _ _ h1).trans ((Below.heap_setCell _ _ _ _ h1).trans ((Below.heap_setCell _ _ _ _ h1).trans (by rw [HW6.out];exact Below.heap_setCell _ _ _ _ h2)))
 have hB5:Below b w w5:=(HBB.out ▸ below_step (w:=w) (HBB.out ▸ HB4.out) HR2.out.2.2.2:Below b w w5);have hBF:Below b w wF:=by
  rw [hwF,HW6.out];exact (((hB5.setCell (show b≤b+1+1 by omega) _).setCell (show b≤b+1 by omega) _).setCell (show b≤b+1 by omega) _).setCell (show b≤b+1 by omega) _
 have s0:=(blk_cell hF 0).trans (rfl:_=some (Value.slice X0 q0.length k0));have s1:=(blk_cell hF 1).trans (rfl:_=some (Value.slice X1 q1.length k1));have s2:=(blk_cell hF 2).trans (rfl:_=some (Value.slice X2 q2.length k2));rw [← hwF];clear hwF;obtain ⟨e0,e1,en1,ef1,ed⟩:=HR4.out;obtain ⟨_,en0,ef0⟩:=HR0.out;obtain ⟨e2,en2,ef2,ehb⟩:=HR2.out;have hlt0:=KT.Row_lt e0;have hlt1:=KT.Row_lt e1;have hs4:=HS4.out;have hs2:=HS2.out;have ef2':∀ q,q∈F2→b+1+1+1≤q:=fun q hq=>by have:=ef2 q hq;omega
 have hP:PT wF (F0++F1++F2) (.agg #[.slice X0 q0.length k0,.slice X1 q1.length k1,.slice X2 q2.length k2]) (q0.map cD) q1 (q2.map cR):=
  ⟨F0,F1,F2,_,_,_,rfl,rfl,KT.Row_frame (fun q hq=>(hkF q (fun e=>by have:=ef0 q hq;omega) (fun e=>by have:=ef0 q hq;omega)).trans (ehb.block q (hlt0 q hq))) e0,
   KT.Row_frame (fun q hq=>(hkF q (fun e=>by have:=ef1 q hq;omega) (fun e=>by have:=ef1 q hq;omega)).trans (ehb.block q (hlt1 q hq))) e1,
   KT.Row_frame (fun q hq=>hkF q (fun e=>by have:=ef2' q hq;omega) (fun e=>by have:=ef2' q hq;omega)) e2⟩
 refine bodyPost_ret (v:=.agg #[.slice X0 q0.length k0,.slice X1 q1.length k1,.slice X2 q2.length k2]) (by simp [results,Tryz.results35,go_sem,s0,s1,s2]) rfl ?_;refine ⟨_,_,rfl,hP,?_,fun k hk=>?_,HBB.out ▸ hBF⟩
 ·refine List.nodup_append.2 ⟨List.nodup_append.2 ⟨en0,en1,fun a ha c hc e=>ed a ha (e ▸ hc)⟩,en2,fun a ha c hc e=>?_⟩;subst e;have h1:=ef2 a hc
  rcases List.mem_append.1 ha with h|h
  ·have:=hlt0 a h;omega
  ·have:=hlt1 a h;omega
 ·rw [← HBB.out]
  rcases List.mem_append.1 hk with h|h
  ·rcases List.mem_append.1 h with h|h
   ·have:=ef0 k h;omega
   ·have:=ef1 k h;omega
  ·have:=ef2' k h;omega
end Go.Proofs.YtbahacapnaohcaaGreatDoor.PB
