import Derived.Test.YtbahacapnaohcaaGreatDoorA19
set_option linter.unusedVariables false
set_option linter.unusedSimpArgs false
namespace Go.Proofs.YtbahacapnaohcaaGreatDoor.PB
open Go.RowKit Go.Proofs.YtbahacapnaohcaaGreatDoorW.PrintWords Go.Proofs.YtbahacapnaohcaaGreatDoorW.PrintLast Go.Proofs.YtbahacapnaohcaaGreatDoorW.PrintMore
namespace KT
variable {α:Type} {t:KT α} {w w':World}
theorem Row_below {e F v} {xs:List α} (h:t.Row e w F v xs) (hb:Below w.heap.size w w'):t.Row e w' F v xs:=Row_frame (fun k hk=>hb.block k (Row_lt h k hk)) h
def Apart (G G':List Nat):Prop:=∀ k,G.head?=some k→G'.head?=some k→False
theorem apart_of {b':Nat} {F' G G':List Nat} (h:∀ k,k∈G→k<b') (h':NewRow b' F' G'):Apart G G':=fun k h1 h2=>by
 have hk:k∈G:=List.mem_of_head? h1
 rcases h' with rfl|⟨g,g',R,_,rfl,hb⟩
 ·cases h2
 ·have:g'=k:=by simpa using h2
  have:=h k hk;omega
theorem NewRow.mono {b b':Nat} {F G:List Nat} (h:NewRow b' F G) (hb:b≤b'):NewRow b F G:=by
 rcases h with h|⟨g,g',R,h1,h2,h3⟩
 ·exact .inl h
 ·exact .inr ⟨g,g',R,h1,h2,by omega⟩
theorem row_not_mem {e te:TypeId} {F G:List Nat} {v:Value} {xs:List α} {base ga:Nat} {cs:Array Value} (h:t.Row e w G v xs) (hn:NewRow base F G) (hF:∀ k,k∈F→k<base) (hg:base≤ga) (hz:w.heap[ga]?=some (.cells cs te (0,0))) (hne:e≠te):ga∉G:=by
 rcases hn with rfl|⟨g,g',R,rfl,rfl,_⟩
 ·simp
 ·intro hm
  rcases List.mem_cons.1 hm with rfl|hm
  ·obtain ⟨A,c,_,_,_,h4⟩:=h
   rcases h4 with ⟨_,e1,_⟩|⟨g2,cur,F',_,e1,hb,_⟩
   ·cases e1
   ·injection e1 with e1 _
    subst e1;rw [hb] at hz;injection hz with hz
    injection hz with _ h3 _
    exact hne h3
  ·have:=hF ga (List.mem_cons_of_mem _ hm);omega
theorem L_snoc:∀ {xs:List α} {F:List Nat} {cs:List Value} {x:α} {Fx:List Nat} {c:List Value},t.L w xs F cs→cs.length=xs.length * t.d.sz→t.T w Fx x c→t.L w (xs++[x]) (F++Fx) (cs++c)
 | [],F,cs,x,Fx,c,h,hl,hx=>by
  have e1:F=[]:=h;have e2:cs=[]:=List.length_eq_zero_iff.1 (by simpa using hl);subst e1;subst e2;exact ⟨Fx,[],c,[],by simp,by simp,hx,rfl⟩
 | y :: xs,F,cs,x,Fx,c,⟨F1,F2,c1,r,e1,e2,h1,h2⟩,hl,hx=>by
  refine ⟨F1,F2++Fx,c1,r++c,by rw [e1,List.append_assoc],by rw [e2,List.append_assoc],h1,L_snoc h2 ?_ hx⟩;rw [e2,List.length_append,T_len h1,List.length_cons,Nat.succ_mul] at hl;omega
def Half (t:KT α) (e:TypeId) (w:World) (b0 bg b1:Nat) (A:Option Addr) (xs:List α) (k:Nat) (P:List Nat):Prop:=
 (xs=[]∧P=[]∧(A=none∨∃ b o,A=some ⟨b,o,none⟩))∨∃ g cur Q cp cq,A=some ⟨g,0,none⟩∧w.heap[g]?=some (.cells cur e (0,0))∧cur.toList=cp++cq∧cp.length=k * t.d.sz∧
  t.L w (xs.take k) P cp∧t.L w (xs.drop k) Q cq∧(∀ q,q∈Q→q<b0)∧b0≤g∧g<bg∧P.Nodup∧(∀ p,p∈P→b1≤p)
theorem half_start {e:TypeId} {b0 bg:Nat} {F G:List Nat} {A:Option Addr} {n c:Nat} {xs:List α} (h:t.Row e w G (.slice A n c) xs) (hn:NewRow b0 F G) (hF:∀ k,k∈F→k<b0) (hbg:∀ k,k∈G→k<bg):t.Half e w b0 bg w.heap.size A xs 0 []:=by
 obtain ⟨A',c',e1,h2,h3,h4⟩:=h;injection e1 with e1 _ _
 subst e1
 rcases h4 with ⟨h5,h6,h7⟩|⟨g,cur,F',h5,h6,hb,hL⟩
 ·exact .inl ⟨h5,rfl,h7⟩
 ·rcases hn with rfl|⟨g0,g',R,rfl,rfl,hg⟩
  ·cases h6
  ·injection h6 with h6 h7
   subst h6;subst h7;exact .inr ⟨g',cur,R,[],cur.toList,h5,hb,rfl,by simp,by simp [L],by simpa using hL,fun q hq=>hF q (List.mem_cons_of_mem _ hq),hg,hbg g' (by simp),List.nodup_nil,by simp⟩
theorem half_end {e:TypeId} {b0 bg b1:Nat} {A:Option Addr} {xs:List α} {P:List Nat} (h:t.Half e w b0 bg b1 A xs xs.length P) (hgb:bg≤b1) (hx:xs.length≤9223372036854775807) :
 ∃ F,t.Row e w F (.slice A xs.length xs.length) xs∧F.Nodup∧(F=[]∨∃ g,F=g :: P∧b0≤g∧g<bg)∧(∀ p,p∈P→b1≤p)∧(∀ p,p∈P→p<w.heap.size):=by
 rcases h with ⟨rfl,rfl,hA⟩|⟨g,cur,Q,cp,cq,rfl,hb,hc,hl,h1,h2,hQ,hg0,hg1,hnd,hP⟩
 ·exact ⟨[],⟨A,_,rfl,Nat.le_refl _,hx,.inl ⟨rfl,rfl,hA⟩⟩,List.nodup_nil,.inl rfl,by simp,by simp⟩
 ·refine ⟨g :: P,⟨_,_,rfl,Nat.le_refl _,hx,.inr ⟨g,cur,P,rfl,rfl,hb,?_⟩⟩,List.nodup_cons.2 ⟨fun hm=>by have:=hP g hm;omega,hnd⟩,.inr ⟨g,rfl,hg0,hg1⟩,hP,fun p hp=>L_lt h1 p hp⟩;rw [List.take_of_length_le (Nat.le_refl _)] at h1;rw [hc];exact L_prefix h1 (by rw [← hl,List.take_left,List.take_of_length_le (by omega)])
theorem half_step {e:TypeId} {w7:World} {b0 bg b1 g k:Nat} {xs:List α} {P G Q2:List Nat} {cur cur7:Array Value} {cp c' r:List Value} {y:α} (hg:w.heap[g]?=some (.cells cur e (0,0))) (hcl:cp.length=k * t.d.sz) (hk:k<xs.length) (hTK:xs.take (k+1)=xs.take k++[y])
 (hL1:t.L w (xs.take k) P cp) (hLr:t.L w (xs.drop (k+1)) Q2 r) (hQ:∀ q,q∈Q2→q<b0) (hg0:b0≤g) (hgg:g<bg) (hg1:g<b1) (hPn:P.Nodup) (hP1:∀ p,p∈P→b1≤p) (hb1:b1≤w.heap.size)
 (hfr:∀ q,q<w.heap.size→q≠g→w7.heap[q]?=w.heap[q]?) (hg7:w7.heap[g]?=some (.cells cur7 e (0,0))) (hc7:cur7.toList=cp++(c'++r)) (hT:t.T w7 G y c') (hG:G.Nodup) (hGf:∀ q,q∈G→w.heap.size≤q) :
 t.Half e w7 b0 bg b1 (some ⟨g,0,none⟩) xs (k+1) (P++G):=by
 refine .inr ⟨g,cur7,Q2,cp++c',r,rfl,hg7,by rw [hc7,List.append_assoc],by rw [List.length_append,hcl,T_len hT,Nat.succ_mul],?_,?_,hQ,hg0,hgg,?_,?_⟩
 ·rw [hTK];refine L_snoc (L_frame (fun q hq=>hfr q (L_lt hL1 q hq) (fun e=>by have:=hP1 q hq;omega)) hL1) ?_ hT;rw [hcl,List.length_take,Nat.min_eq_left (by omega)]
 ·exact L_frame (fun q hq=>hfr q (L_lt hLr q hq) (fun e=>by have:=hQ q hq;omega)) hLr
 ·refine List.nodup_append.2 ⟨hPn,hG,fun a ha b hb e=>?_⟩;have:=L_lt hL1 a ha;have:=hGf b hb;omega
 ·intro q hq
  rcases List.mem_append.1 hq with h|h
  ·exact hP1 q h
  ·have:=hGf q h;omega
theorem leaf_fresh {d:Kd α} {enc:α→List Value} {h:∀ w x,d.K w x (enc x)} {e:TypeId} {F G:List Nat} {v:Value} {xs:List α} {base:Nat} (hr:(leaf d enc h).Row e w G v xs) (hn:NewRow base F G):G.Nodup∧∀ k,k∈G→base≤k:=by
 rcases hn with rfl|⟨g,g',R,rfl,rfl,hb⟩
 ·exact ⟨List.nodup_nil,by simp⟩
 ·obtain ⟨A,c,_,_,_,h4⟩:=hr
  rcases h4 with ⟨_,e1,_⟩|⟨g2,cur,F',_,e1,_,hL⟩
  ·cases e1
  ·injection e1 with e1 e2
   have:=leaf_F hL;subst e2;subst this;exact ⟨by simp,by simpa using hb⟩
theorem not_mem_end {e te:TypeId} {FD P:List Nat} {v:Value} {xs:List α} {b1 g:Nat} {cs:Array Value} (h:t.Row e w FD v xs) (hF:FD=[]∨∃ g0,FD=g0 :: P) (hP:∀ p,p∈P→b1≤p) (hg:g<b1) (hz:w.heap[g]?=some (.cells cs te (0,0))) (hne:e≠te):g∉FD:=by
 rcases hF with rfl|⟨g0,rfl⟩
 ·simp
 ·intro hm
  rcases List.mem_cons.1 hm with rfl|hm
  ·obtain ⟨A,c,_,_,_,h4⟩:=h
   rcases h4 with ⟨_,e1,_⟩|⟨g2,cur,F',_,e1,hb,_⟩
   ·cases e1
   ·injection e1 with e1 _
    subst e1;rw [hb] at hz;injection hz with hz
    injection hz with _ h3 _
    exact hne h3
  ·have:=hP g hm;omega
theorem row_typed {e:TypeId} {g:Nat} {P:List Nat} {v:Value} {xs:List α} (h:t.Row e w (g :: P) v xs):∃ cur,w.heap[g]?=some (.cells cur e (0,0)):=by
 obtain ⟨A,c,_,_,_,h4⟩:=h
 rcases h4 with ⟨_,e1,_⟩|⟨g2,cur,F',_,e1,hb,_⟩
 ·cases e1
 ·injection e1 with e1 _
  subst e1;exact ⟨cur,hb⟩
theorem leaf_typed {d:Kd α} {enc:α→List Value} {h:∀ w x,d.K w x (enc x)} {e:TypeId} {G:List Nat} {v:Value} {xs:List α} (hr:(leaf d enc h).Row e w G v xs):∀ k,k∈G→∃ cur,w.heap[k]?=some (.cells cur e (0,0)):=by
 obtain ⟨A,c,_,_,_,h4⟩:=hr;intro k hk
 rcases h4 with ⟨_,e1,_⟩|⟨g2,cur,F',_,e1,hb,hL⟩
 ·rw [e1] at hk;cases hk
 ·have:=leaf_F hL;subst this;subst e1;have:k=g2:=by simpa using hk
  subst this;exact ⟨cur,hb⟩
theorem set_two (cp r:List Value) (a b c b' c':Value) (n:Nat) (hn:cp.length=n):((cp++([a,b,c]++r)).set (n+1) b').set (n+2) c'=cp++([a,b',c']++r):=by
 subst hn;rw [List.set_append_right _ _ (by omega),List.set_append_right _ _ (by omega)]
 simp
end KT
structure Sized (l0:List S65) (l1:List ByteArray) (l2:List S63):Prop where
 n0:l0.length<1099511627776
 n1:l1.length<1099511627776
 n2:l2.length<1099511627776
 pars:∀ x,x∈l0→x.f1.length<1099511627776
 bodies:∀ x,x∈l0→x.f2.f0.length<1099511627776
 sides:∀ x,x∈l2→x.f1.f0.length<1099511627776∧x.f2.f0.length<1099511627776
def Z38:Obj:=.cells #[.slice none 0 0,.slice none 0 0,.slice none 0 0] 38
set_option maxHeartbeats 8000000 in
set_option maxRecDepth 100000 in
theorem copyOf_calls {F:List Nat} {v:Value} {l0:List S65} {l1:List ByteArray} {l2:List S63} (w:World) (hP:PT w F v l0 l1 l2) (hZ:Sized l0 l1 l2) :
 Calls Tryz.prog 81 #[v] w fun e w'=>∃ v' F',e=.returned v'∧PT w' F' v' l0 l1 l2∧F'.Nodup∧(∀ k,k∈F'→w.heap.size≤k)∧Below w.heap.size w w':=by
 obtain ⟨F0,F1,F2,v0,v1,v2,rfl,rfl,h0,h1,h2⟩:=hP;have HS0:=am h0;have HS1:=am h1;have HS2:=am h2;obtain ⟨A0,c0,rfl,hc0,_⟩:=h0;obtain ⟨A1,c1,rfl,hc1,_⟩:=h1;obtain ⟨A2,c2,rfl,hc2,_⟩:=h2;clear hc0 hc1 hc2;have HZ:=am hZ;clear hZ;have hu38:=Tryz.underlying38;have hu65:=Tryz.underlying65;have hu63:=Tryz.underlying63;have hu25:=Tryz.underlying25;go_enter Tryz.func81,Tryz.ntmps81;go_wp2_with fail;obtain ⟨w0,hw0⟩:∃ w0,w0=(w.alloc (.cells #[.slice A0 l0.length c0,.slice A1 l1.length c1,.slice A2 l2.length c2] 38)).alloc (.cells #[.slice none 0 0,.slice none 0 0,.slice none 0 0] 38):=⟨_,rfl⟩;have hq0:w0.drew.cell? ⟨w.heap.size,0,none⟩=some (.slice A0 l0.length c0):=by rw [hw0];simp [go_sem]
 have hq1:w0.drew.cell? ⟨w.heap.size,1,none⟩=some (.slice A1 l1.length c1):=by rw [hw0];simp [go_sem]
 have hq2:w0.drew.cell? ⟨w.heap.size,2,none⟩=some (.slice A2 l2.length c2):=by rw [hw0];simp [go_sem]
 have HB:Below w.heap.size w w0.drew:=by rw [hw0];exact be
 have hg2:w0.drew.heap[w.heap.size+1]?=some Z38:=by rw [hw0];unfold Z38;simp [World.drew,World.alloc,-World.alloc_eq,-World.drew_eq,Array.getElem_push]
 rw [← hw0];clear hw0;refine start_ (n:=12) (S:=fun w'=>w'.cell? ⟨w.heap.size,0,none⟩=some (.slice A0 l0.length c0)∧w'.cell? ⟨w.heap.size,1,none⟩=some (.slice A1 l1.length c1)∧w'.cell? ⟨w.heap.size,2,none⟩=some (.slice A2 l2.length c2)∧w'.heap[w.heap.size+1]?=some Z38) (ds:=[]) #[false,false,false,false,false,false,false,false,false,false,false,false] (by kernel_rfl) rfl rfl ⟨hq0,hq1,hq2,hg2⟩ (fun hHeld=>?_);generalize w0.drew=wS at hHeld HB hq0 hq1 hq2 hg2 ⊢;refine pu 0 8 ?_;refine pu 3 11 ?_;refine pu 6 14 ?_;refine tk 1 9 hHeld ?_;refine tk 4 12 hHeld ?_;refine tk 7 15 hHeld ?_;refine join_ (σ:=Option Addr × Option Addr × Option Addr × Nat) 1 #[true,true,true,true,true,true,true,true,true,true,true,false] (fun s=>[(10,.slice s.1 l0.length l0.length),(13,.slice s.2.1 l1.length l1.length),(16,.slice s.2.2.1 l2.length l2.length),(3,.pointer (some ⟨s.2.2.2,0,none⟩)),(17,.agg #[.slice s.1 l0.length l0.length,.slice s.2.1 l1.length l1.length,.slice s.2.2.1 l2.length l2.length])]) (fun s w'=>∃ G0 G1 G2,t65.Row 65 w' G0 (.slice s.1 l0.length l0.length) l0∧KT.NewRow w.heap.size F0 G0∧tS.Row 9 w' G1 (.slice s.2.1 l1.length l1.length) l1∧KT.NewRow w.heap.size F1 G1∧t63.Row 63 w' G2 (.slice s.2.2.1 l2.length l2.length) l2∧KT.NewRow w.heap.size F2 G2∧KT.Apart G0 G1∧KT.Apart G0 G2∧KT.Apart G1 G2∧w'.heap[s.2.2.2]?=some Z38∧w.heap.size+2≤s.2.2.2∧Below w.heap.size w w'∧(w'.cell? ⟨w.heap.size,0,none⟩=some (.slice A0 l0.length c0)∧w'.cell? ⟨w.heap.size,1,none⟩=some (.slice A1 l1.length c1)∧w'.cell? ⟨w.heap.size,2,none⟩=some (.slice A2 l2.length c2)∧w'.heap[w.heap.size+1]?=some Z38)) ?_ ?_;rotate_left
 ·intro hCont;refine two_ (i:=2) (j:=10) (Ni:=some 10) (Nj:=some 3) #[true,true,true,true,true,false,true,true,false,false,false,false] #[true,true,false,true,true,false,true,true,false,false,true,false] rfl rfl rfl rfl (by kernel_rfl) (by decide) (by decide) (fun K hK=>?_) (fun K hK=>?_)
  ·skip
   refine goes_ Tryz.func152 (by kernel_rfl) rfl #[.slice A0 l0.length c0] (by rfl) rfl rfl (by simp only [List.map_toArray,List.map_cons,List.map_nil];rfl) ?_;with_reducible refine (cloneD_calls (KT.Row_below HS0.out HB) HZ.out.n0).mono ?_
   rintro e wv1 ⟨B0,G0,rfl,hr0,hn0,hb⟩;refine ⟨_,rfl,?_⟩;replace hn0:=hn0.mono HB.size;replace HB:=below_then HB HB.size hb;refine hK.out _ _ ⟨pb hb hHeld.1,pb hb hHeld.2.1,pb hb hHeld.2.2.1,(hb.block _ (Array.getElem?_eq_some_iff.1 hHeld.2.2.2).1).trans hHeld.2.2.2⟩ (fun hHeld=>?_);clear hK K;refine nr ?_;refine two_ (i:=5) (j:=10) (Ni:=some 13) (Nj:=some 3) #[true,true,true,true,true,true,true,true,false,false,false,false] #[true,true,true,true,true,false,true,true,false,false,true,false] rfl rfl rfl rfl (by kernel_rfl) (by decide) (by decide) (fun K hK=>?_) (fun K hK=>?_)
   ·skip
    refine goes_ Tryz.func153 (by kernel_rfl) rfl #[.slice A1 l1.length c1] (by rfl) rfl rfl (by simp only [List.map_toArray,List.map_cons,List.map_nil];rfl) ?_;with_reducible refine (cloneS_calls (KT.Row_below HS1.out HB) HZ.out.n1).mono ?_
    rintro e wv2 ⟨B1,G1,rfl,hr1,hn1,hb⟩;refine ⟨_,rfl,?_⟩;have ha01:=KT.apart_of (KT.Row_lt hr0) hn1;replace hn1:=hn1.mono HB.size;replace hr0:=KT.Row_below hr0 hb;replace HB:=below_then HB HB.size hb;refine hK.out _ _ ⟨pb hb hHeld.1,pb hb hHeld.2.1,pb hb hHeld.2.2.1,(hb.block _ (Array.getElem?_eq_some_iff.1 hHeld.2.2.2).1).trans hHeld.2.2.2⟩ (fun hHeld=>?_);clear hK K;refine nr ?_;refine two_ (i:=8) (j:=10) (Ni:=some 16) (Nj:=some 3) #[true,true,true,true,true,true,true,true,true,false,false,false] #[true,true,true,true,true,true,true,true,false,false,true,false] rfl rfl rfl rfl (by kernel_rfl) (by decide) (by decide) (fun K hK=>?_) (fun K hK=>?_)
    ·skip
     refine goes_ Tryz.func154 (by kernel_rfl) rfl #[.slice A2 l2.length c2] (by rfl) rfl rfl (by simp only [List.map_toArray,List.map_cons,List.map_nil];rfl) ?_;with_reducible refine (cloneR_calls (KT.Row_below HS2.out HB) HZ.out.n2).mono ?_
     rintro e wv3 ⟨B2,G2,rfl,hr2,hn2,hb⟩;refine ⟨_,rfl,?_⟩;have ha02:=KT.apart_of (KT.Row_lt hr0) hn2;have ha12:=KT.apart_of (KT.Row_lt hr1) hn2;replace hn2:=hn2.mono HB.size;replace hr0:=KT.Row_below hr0 hb;replace hr1:=KT.Row_below hr1 hb;replace HB:=below_then HB HB.size hb;refine hK.out _ _ ⟨pb hb hHeld.1,pb hb hHeld.2.1,pb hb hHeld.2.2.1,(hb.block _ (Array.getElem?_eq_some_iff.1 hHeld.2.2.2).1).trans hHeld.2.2.2⟩ (fun hHeld=>?_);clear hK K;refine nr ?_;refine pu 9 17 ?_;refine one_ (i:=10) (N:=some 3) #[true,true,true,true,true,true,true,true,true,true,true,false] rfl rfl (by kernel_rfl) (by decide) (fun K hK=>?_);refine value_ (w1:=?_) (v:=?_) (by rfl) rfl ?_ ?_;rotate_left 2
     ·go_simp
      constructor
      ·rfl
      ·rfl
     obtain ⟨wv4,hw⟩:∃ x,x=wv3.alloc (.cells #[.slice none 0 0,.slice none 0 0,.slice none 0 0] 38):=⟨_,rfl⟩;have hb:Below wv3.heap.size wv3 wv4:=by rw [hw];exact be
     have hz:wv4.heap[wv3.heap.size]?=some Z38:=by rw [hw];unfold Z38;simp [World.alloc,-World.alloc_eq]
     have hga:w.heap.size+2≤wv3.heap.size:=(Array.getElem?_eq_some_iff.1 hHeld.2.2.2).1;rw [← hw];clear hw;replace hr0:=KT.Row_below hr0 hb;replace hr1:=KT.Row_below hr1 hb;replace hr2:=KT.Row_below hr2 hb;replace HB:=below_then HB HB.size hb;refine hK.out _ _ ⟨pb hb hHeld.1,pb hb hHeld.2.1,pb hb hHeld.2.2.1,(hb.block _ (Array.getElem?_eq_some_iff.1 hHeld.2.2.2).1).trans hHeld.2.2.2⟩ (fun hHeld=>?_);clear hK K;refine nr ?_;exact norm_ (by simp only [putAll,Act.put,List.setIfInBounds_toArray,List.set_cons_zero,List.set_cons_succ]) (hCont (B0,B1,B2,wv3.heap.size) _ ⟨G0,G1,G2,hr0,hn0,hr1,hn1,hr2,hn2,ha01,ha02,ha12,hz,hga,HB,hHeld⟩)
    ·skip
     refine value_ (w1:=?_) (v:=?_) (by rfl) rfl ?_ ?_;rotate_left 2
     ·go_simp
      constructor
      ·rfl
      ·rfl
     obtain ⟨wv3,hw⟩:∃ x,x=wv2.alloc (.cells #[.slice none 0 0,.slice none 0 0,.slice none 0 0] 38):=⟨_,rfl⟩;have hb:Below wv2.heap.size wv2 wv3:=by rw [hw];exact be
     have hz:wv3.heap[wv2.heap.size]?=some Z38:=by rw [hw];unfold Z38;simp [World.alloc,-World.alloc_eq]
     have hga:w.heap.size+2≤wv2.heap.size:=(Array.getElem?_eq_some_iff.1 hHeld.2.2.2).1;rw [← hw];clear hw;replace hr0:=KT.Row_below hr0 hb;replace hr1:=KT.Row_below hr1 hb;replace HB:=below_then HB HB.size hb;refine hK.out _ _ ⟨pb hb hHeld.1,pb hb hHeld.2.1,pb hb hHeld.2.2.1,(hb.block _ (Array.getElem?_eq_some_iff.1 hHeld.2.2.2).1).trans hHeld.2.2.2⟩ (fun hHeld=>?_);clear hK K;refine nr ?_;refine one_ (i:=8) (N:=some 16) #[true,true,true,true,true,true,true,true,true,false,true,false] rfl rfl (by kernel_rfl) (by decide) (fun K hK=>?_);refine goes_ Tryz.func154 (by kernel_rfl) rfl #[.slice A2 l2.length c2] (by rfl) rfl rfl (by simp only [List.map_toArray,List.map_cons,List.map_nil];rfl) ?_;with_reducible refine (cloneR_calls (KT.Row_below HS2.out HB) HZ.out.n2).mono ?_
     rintro e wv4 ⟨B2,G2,rfl,hr2,hn2,hb⟩;refine ⟨_,rfl,?_⟩;have ha02:=KT.apart_of (KT.Row_lt hr0) hn2;have ha12:=KT.apart_of (KT.Row_lt hr1) hn2;replace hn2:=hn2.mono HB.size;replace hz:=(hb.block _ (Array.getElem?_eq_some_iff.1 hz).1).trans hz;replace hr0:=KT.Row_below hr0 hb;replace hr1:=KT.Row_below hr1 hb;replace HB:=below_then HB HB.size hb;refine hK.out _ _ ⟨pb hb hHeld.1,pb hb hHeld.2.1,pb hb hHeld.2.2.1,(hb.block _ (Array.getElem?_eq_some_iff.1 hHeld.2.2.2).1).trans hHeld.2.2.2⟩ (fun hHeld=>?_);clear hK K;refine nr ?_;refine pu 9 17 ?_;exact norm_ (by simp only [putAll,Act.put,List.setIfInBounds_toArray,List.set_cons_zero,List.set_cons_succ]) (hCont (B0,B1,B2,wv2.heap.size) _ ⟨G0,G1,G2,hr0,hn0,hr1,hn1,hr2,hn2,ha01,ha02,ha12,hz,hga,HB,hHeld⟩)
   ·skip
    refine value_ (w1:=?_) (v:=?_) (by rfl) rfl ?_ ?_;rotate_left 2
    ·go_simp
     constructor
     ·rfl
     ·rfl
    obtain ⟨wv2,hw⟩:∃ x,x=wv1.alloc (.cells #[.slice none 0 0,.slice none 0 0,.slice none 0 0] 38):=⟨_,rfl⟩;have hb:Below wv1.heap.size wv1 wv2:=by rw [hw];exact be
    have hz:wv2.heap[wv1.heap.size]?=some Z38:=by rw [hw];unfold Z38;simp [World.alloc,-World.alloc_eq]
    have hga:w.heap.size+2≤wv1.heap.size:=(Array.getElem?_eq_some_iff.1 hHeld.2.2.2).1;rw [← hw];clear hw;replace hr0:=KT.Row_below hr0 hb;replace HB:=below_then HB HB.size hb;refine hK.out _ _ ⟨pb hb hHeld.1,pb hb hHeld.2.1,pb hb hHeld.2.2.1,(hb.block _ (Array.getElem?_eq_some_iff.1 hHeld.2.2.2).1).trans hHeld.2.2.2⟩ (fun hHeld=>?_);clear hK K;refine nr ?_;refine one_ (i:=5) (N:=some 13) #[true,true,true,true,true,true,true,true,false,false,true,false] rfl rfl (by kernel_rfl) (by decide) (fun K hK=>?_);refine goes_ Tryz.func153 (by kernel_rfl) rfl #[.slice A1 l1.length c1] (by rfl) rfl rfl (by simp only [List.map_toArray,List.map_cons,List.map_nil];rfl) ?_;with_reducible refine (cloneS_calls (KT.Row_below HS1.out HB) HZ.out.n1).mono ?_
    rintro e wv3 ⟨B1,G1,rfl,hr1,hn1,hb⟩;refine ⟨_,rfl,?_⟩;have ha01:=KT.apart_of (KT.Row_lt hr0) hn1;replace hn1:=hn1.mono HB.size;replace hz:=(hb.block _ (Array.getElem?_eq_some_iff.1 hz).1).trans hz;replace hr0:=KT.Row_below hr0 hb;replace HB:=below_then HB HB.size hb;refine hK.out _ _ ⟨pb hb hHeld.1,pb hb hHeld.2.1,pb hb hHeld.2.2.1,(hb.block _ (Array.getElem?_eq_some_iff.1 hHeld.2.2.2).1).trans hHeld.2.2.2⟩ (fun hHeld=>?_);clear hK K;refine nr ?_;refine one_ (i:=8) (N:=some 16) #[true,true,true,true,true,true,true,true,true,false,true,false] rfl rfl (by kernel_rfl) (by decide) (fun K hK=>?_);refine goes_ Tryz.func154 (by kernel_rfl) rfl #[.slice A2 l2.length c2] (by rfl) rfl rfl (by simp only [List.map_toArray,List.map_cons,List.map_nil];rfl) ?_;with_reducible refine (cloneR_calls (KT.Row_below HS2.out HB) HZ.out.n2).mono ?_
    rintro e wv4 ⟨B2,G2,rfl,hr2,hn2,hb⟩;refine ⟨_,rfl,?_⟩;have ha02:=KT.apart_of (KT.Row_lt hr0) hn2;have ha12:=KT.apart_of (KT.Row_lt hr1) hn2;replace hn2:=hn2.mono HB.size;replace hz:=(hb.block _ (Array.getElem?_eq_some_iff.1 hz).1).trans hz;replace hr0:=KT.Row_below hr0 hb;replace hr1:=KT.Row_below hr1 hb;replace HB:=below_then HB HB.size hb;refine hK.out _ _ ⟨pb hb hHeld.1,pb hb hHeld.2.1,pb hb hHeld.2.2.1,(hb.block _ (Array.getElem?_eq_some_iff.1 hHeld.2.2.2).1).trans hHeld.2.2.2⟩ (fun hHeld=>?_);clear hK K;refine nr ?_;refine pu 9 17 ?_;exact norm_ (by simp only [putAll,Act.put,List.setIfInBounds_toArray,List.set_cons_zero,List.set_cons_succ]) (hCont (B0,B1,B2,wv1.heap.size) _ ⟨G0,G1,G2,hr0,hn0,hr1,hn1,hr2,hn2,ha01,ha02,ha12,hz,hga,HB,hHeld⟩)
  ·skip
   refine value_ (w1:=?_) (v:=?_) (by rfl) rfl ?_ ?_;rotate_left 2
   ·go_simp
    constructor
    ·rfl
    ·rfl
   obtain ⟨wv1,hw⟩:∃ x,x=wS.alloc (.cells #[.slice none 0 0,.slice none 0 0,.slice none 0 0] 38):=⟨_,rfl⟩;have hb:Below wS.heap.size wS wv1:=by rw [hw];exact be
   have hz:wv1.heap[wS.heap.size]?=some Z38:=by rw [hw];unfold Z38;simp [World.alloc,-World.alloc_eq]
   have hga:w.heap.size+2≤wS.heap.size:=(Array.getElem?_eq_some_iff.1 hHeld.2.2.2).1;rw [← hw];clear hw;replace HB:=below_then HB HB.size hb;refine hK.out _ _ ⟨pb hb hHeld.1,pb hb hHeld.2.1,pb hb hHeld.2.2.1,(hb.block _ (Array.getElem?_eq_some_iff.1 hHeld.2.2.2).1).trans hHeld.2.2.2⟩ (fun hHeld=>?_);clear hK K;refine nr ?_;refine one_ (i:=2) (N:=some 10) #[true,true,true,true,true,false,true,true,false,false,true,false] rfl rfl (by kernel_rfl) (by decide) (fun K hK=>?_);refine goes_ Tryz.func152 (by kernel_rfl) rfl #[.slice A0 l0.length c0] (by rfl) rfl rfl (by simp only [List.map_toArray,List.map_cons,List.map_nil];rfl) ?_;with_reducible refine (cloneD_calls (KT.Row_below HS0.out HB) HZ.out.n0).mono ?_
   rintro e wv2 ⟨B0,G0,rfl,hr0,hn0,hb⟩;refine ⟨_,rfl,?_⟩;replace hn0:=hn0.mono HB.size;replace hz:=(hb.block _ (Array.getElem?_eq_some_iff.1 hz).1).trans hz;replace HB:=below_then HB HB.size hb;refine hK.out _ _ ⟨pb hb hHeld.1,pb hb hHeld.2.1,pb hb hHeld.2.2.1,(hb.block _ (Array.getElem?_eq_some_iff.1 hHeld.2.2.2).1).trans hHeld.2.2.2⟩ (fun hHeld=>?_);clear hK K;refine nr ?_;refine one_ (i:=5) (N:=some 13) #[true,true,true,true,true,true,true,true,false,false,true,false] rfl rfl (by kernel_rfl) (by decide) (fun K hK=>?_);refine goes_ Tryz.func153 (by kernel_rfl) rfl #[.slice A1 l1.length c1] (by rfl) rfl rfl (by simp only [List.map_toArray,List.map_cons,List.map_nil];rfl) ?_;with_reducible refine (cloneS_calls (KT.Row_below HS1.out HB) HZ.out.n1).mono ?_
   rintro e wv3 ⟨B1,G1,rfl,hr1,hn1,hb⟩;refine ⟨_,rfl,?_⟩;have ha01:=KT.apart_of (KT.Row_lt hr0) hn1;replace hn1:=hn1.mono HB.size;replace hz:=(hb.block _ (Array.getElem?_eq_some_iff.1 hz).1).trans hz;replace hr0:=KT.Row_below hr0 hb;replace HB:=below_then HB HB.size hb;refine hK.out _ _ ⟨pb hb hHeld.1,pb hb hHeld.2.1,pb hb hHeld.2.2.1,(hb.block _ (Array.getElem?_eq_some_iff.1 hHeld.2.2.2).1).trans hHeld.2.2.2⟩ (fun hHeld=>?_);clear hK K;refine nr ?_;refine one_ (i:=8) (N:=some 16) #[true,true,true,true,true,true,true,true,true,false,true,false] rfl rfl (by kernel_rfl) (by decide) (fun K hK=>?_);refine goes_ Tryz.func154 (by kernel_rfl) rfl #[.slice A2 l2.length c2] (by rfl) rfl rfl (by simp only [List.map_toArray,List.map_cons,List.map_nil];rfl) ?_;with_reducible refine (cloneR_calls (KT.Row_below HS2.out HB) HZ.out.n2).mono ?_
   rintro e wv4 ⟨B2,G2,rfl,hr2,hn2,hb⟩;refine ⟨_,rfl,?_⟩;have ha02:=KT.apart_of (KT.Row_lt hr0) hn2;have ha12:=KT.apart_of (KT.Row_lt hr1) hn2;replace hn2:=hn2.mono HB.size;replace hz:=(hb.block _ (Array.getElem?_eq_some_iff.1 hz).1).trans hz;replace hr0:=KT.Row_below hr0 hb;replace hr1:=KT.Row_below hr1 hb;replace HB:=below_then HB HB.size hb;refine hK.out _ _ ⟨pb hb hHeld.1,pb hb hHeld.2.1,pb hb hHeld.2.2.1,(hb.block _ (Array.getElem?_eq_some_iff.1 hHeld.2.2.2).1).trans hHeld.2.2.2⟩ (fun hHeld=>?_);clear hK K;refine nr ?_;refine pu 9 17 ?_;exact norm_ (by simp only [putAll,Act.put,List.setIfInBounds_toArray,List.set_cons_zero,List.set_cons_succ]) (hCont (B0,B1,B2,wS.heap.size) _ ⟨G0,G1,G2,hr0,hn0,hr1,hn1,hr2,hn2,ha01,ha02,ha12,hz,hga,HB,hHeld⟩)
 rintro ⟨B0,B1,B2,ga⟩ w1 ⟨G0,G1,G2,hr0,hn0,hr1,hn1,hr2,hn2,ha01,ha02,ha12,hz,hga,HB,hHeld⟩;replace hga:w.heap.size+2≤ga:=hga;replace hz:w1.heap[ga]?=some Z38:=hz;replace hr0:t65.Row 65 w1 G0 (.slice B0 l0.length l0.length) l0:=hr0;replace hr1:tS.Row 9 w1 G1 (.slice B1 l1.length l1.length) l1:=hr1;replace hr2:t63.Row 63 w1 G2 (.slice B2 l2.length l2.length) l2:=hr2;refine norm_ (a':=?_) ?_ ?_;rotate_left
 ·simp only [putAll,Act.put,List.setIfInBounds_toArray,List.set_cons_zero,List.set_cons_succ];rfl
 refine one_ (i:=11) (N:=none) #[true,true,true,true,true,true,true,true,true,true,true,true] rfl rfl (by kernel_rfl) (by decide) (fun K hK=>?_);have hz0:w1.cell? ⟨ga,0,none⟩=some (.slice none 0 0):=(blk_cell hz 0).trans rfl;have hz1:w1.cell? ⟨ga,1,none⟩=some (.slice none 0 0):=(blk_cell hz 1).trans rfl;have hz2:w1.cell? ⟨ga,2,none⟩=some (.slice none 0 0):=(blk_cell hz 2).trans rfl;have hf0:=blk_frozen hz 0;have hf1:=blk_frozen hz 1;have hf2:=blk_frozen hz 2;refine skip_ (w1:=?_) (by rfl) rfl ?_ ?_;rotate_left
 ·go_simp
  rfl
 have hk:∀ k,k≠ga→(((w1.setCell ⟨ga,0,none⟩ (.slice B0 l0.length l0.length)).setCell ⟨ga,1,none⟩ (.slice B1 l1.length l1.length)).setCell ⟨ga,2,none⟩ (.slice B2 l2.length l2.length)).heap[k]?=w1.heap[k]?:=fun k hk=>(Below.heap_setCell _ _ _ _ hk).trans ((Below.heap_setCell _ _ _ _ hk).trans (Below.heap_setCell _ _ _ _ hk))
 have hcl:∀ j u,w1.cell? ⟨w.heap.size,j,none⟩=some u→(((w1.setCell ⟨ga,0,none⟩ (.slice B0 l0.length l0.length)).setCell ⟨ga,1,none⟩ (.slice B1 l1.length l1.length)).setCell ⟨ga,2,none⟩ (.slice B2 l2.length l2.length)).cell? ⟨w.heap.size,j,none⟩=some u:=fun j u h=>(World.cell?_of_block (w:=w1) (a:=⟨w.heap.size,j,none⟩) (hk _ (by simp;omega))).trans h
 refine hK.out _ _ ⟨hcl _ _ hHeld.1,hcl _ _ hHeld.2.1,hcl _ _ hHeld.2.2.1,(hk _ (by omega)).trans hHeld.2.2.2⟩ (fun hHeld=>?_);clear hK K;refine done_ (by kernel_rfl) ?_;have hL0:=KT.Row_lt HS0.out;have hL1:=KT.Row_lt HS1.out;have hL2:=KT.Row_lt HS2.out;have hm0:=KT.row_not_mem hr0 hn0 hL0 (by omega) hz (by decide);have hm1:=KT.row_not_mem hr1 hn1 hL1 (by omega) hz (by decide);have hm2:=KT.row_not_mem hr2 hn2 hL2 (by omega) hz (by decide);obtain ⟨w2,hw2⟩:∃ w2,w2=(((w1.setCell ⟨ga,0,none⟩ (.slice B0 l0.length l0.length)).setCell ⟨ga,1,none⟩ (.slice B1 l1.length l1.length)).setCell ⟨ga,2,none⟩ (.slice B2 l2.length l2.length)):=⟨_,rfl⟩;rw [← hw2] at hk hHeld;have hga2:w2.heap[ga]?=some (.cells #[.slice B0 l0.length l0.length,.slice B1 l1.length l1.length,.slice B2 l2.length l2.length] 38):=by rw [hw2];exact blk_put (blk_put (blk_put hz 0 _ rfl) 1 _ rfl) 2 _ rfl
 have HR0:=am (KT.Row_frame (w':=w2) (fun k h=>hk k (fun e=>hm0 (e ▸ h))) hr0);have HR1:=am (KT.Row_frame (w':=w2) (fun k h=>hk k (fun e=>hm1 (e ▸ h))) hr1);have HR2:=am (KT.Row_frame (w':=w2) (fun k h=>hk k (fun e=>hm2 (e ▸ h))) hr2);have HB2:=am (show Below w.heap.size w w2 by rw [hw2];exact ((HB.setCell (show w.heap.size≤ga by omega) _).setCell (show w.heap.size≤ga by omega) _).setCell (show w.heap.size≤ga by omega) _);have HN:=am (And.intro hn0 (And.intro hn1 (And.intro hn2 (And.intro ha01 (And.intro ha02 ha12)))));have HG2:=am hHeld.2.2.2;rw [← hw2];clear hw2 hk hHeld hr0 hr1 hr2 hm0 hm1 hm2 hz hz0 hz1 hz2 hf0 hf1 hf2 hcl hL0 hL1 hL2 HB hn0 hn1 hn2 ha01 ha02 ha12 hq0 hq1 hq2 hg2;have hc0:w2.cell? ⟨ga,0,none⟩=some (.slice B0 l0.length l0.length):=(blk_cell hga2 0).trans rfl;go_wp2_with fail;have hH:=KT.half_start HR0.out HN.out.1 (KT.Row_lt HS0.out) (KT.Row_lt HR0.out);obtain ⟨b1,hb1⟩:∃ b1,b1=w2.heap.size:=⟨_,rfl⟩;rw [← hb1] at hH;have hl1:=KT.Row_lt HR1.out;have hl2:=KT.Row_lt HR2.out;rw [← hb1] at hl1 hl2;have hlga:=(Array.getElem?_eq_some_iff.1 hga2).1;rw [← hb1] at hlga;have HBL:=am (And.intro hl1 (And.intro hl2 hlga));have HH:=am hH;have hn0:=HZ.out.n0;clear hH hl1 hl2 hlga HR0
 go_loopw [21] (fun i wr=>∃ (k:Nat) (P:List Nat),k≤l0.length∧i=.int .i64 k∧Aside0 (t65.Half 65 wr w.heap.size b1 b1 B0 l0 k P)∧Aside0 (tS.Row 9 wr G1 (.slice B1 l1.length l1.length) l1)∧Aside0 (t63.Row 63 wr G2 (.slice B2 l2.length l2.length) l2)∧Aside0 (wr.heap[ga]?=some (.cells #[.slice B0 l0.length l0.length,.slice B1 l1.length l1.length,.slice B2 l2.length l2.length] 38))∧Aside0 (wr.heap[w.heap.size+1]?=some Z38)∧Aside0 (Below w.heap.size w wr)∧b1≤wr.heap.size) (fun i _=>l0.length - (intOf i).toNat)
 case atStart=>exact ⟨0,[],Nat.zero_le _,rfl,HH,HR1,HR2,⟨hga2⟩,HG2,HB2,by omega⟩
 case round=>
  clear HH HR1 HR2 hga2 HG2 HB2 hc0 hb1;obtain ⟨k,P,hk,rfl,HH,HR1,HR2,HGA,HG2,HB,hb1⟩:=hrel
  by_cases hlt:k<l0.length
  ·rcases HH.out with ⟨rfl,_,_⟩|⟨g,cur,Q,cp,cq,rfl,hg,hcc,hcl,hL1,hL2,hQ,hg0,hg1,hPn,hP1⟩
   ·simp at hlt
   ·clear HH;obtain ⟨y,hy⟩:∃ y,y=l0[k]:=⟨_,rfl⟩;have hmem:y∈l0:=by rw [hy];exact List.getElem_mem _
    have hD:=List.drop_eq_getElem_cons hlt;rw [← hy] at hD;rw [hD] at hL2;have HTK:Aside0 (l0.take (k+1)=l0.take k++[y]):=⟨by rw [List.take_succ_eq_append_getElem hlt,← hy]⟩;clear hy hD;obtain ⟨Q1,Q2,c,r,hQe,hcq,⟨Qa,Qb,v1,v2,hQ1,hce,hra,hrb⟩,hLr⟩:=hL2;have HA:=am hra;have HBb:=am hrb;obtain ⟨X1,d1,rfl,hd1,_⟩:=hra;obtain ⟨X2,d2,rfl,hd2,_⟩:=hrb;clear hd1 hd2;subst hce;subst hcq;subst hQ1;subst hQe;have hcl3:cp.length=k * 3:=hcl;have hget:∀ j u,[Value.string y.f0,.slice X1 y.f1.length d1,.slice X2 y.f2.f0.length d2][j]?=some u→cur[k * 3+j]?=some u:=fun j u hj=>by
     have hj3:j<3:=by have:=(List.getElem?_eq_some_iff.1 hj).1;simpa using this
     rw [← Array.getElem?_toList,hcc,← hcl3,List.getElem?_append_right (by omega),Nat.add_sub_cancel_left,List.getElem?_append_left (by simpa using hj3)];exact hj
    have hx0:wr.cell? ⟨g,k * 3,none⟩=some (.string y.f0):=(blk_cell hg _).trans (hget 0 _ rfl);have hx1:wr.cell? ⟨g,k * 3+1,none⟩=some (.slice X1 y.f1.length d1):=(blk_cell hg _).trans (hget 1 _ rfl);have hx2:wr.cell? ⟨g,k * 3+2,none⟩=some (.slice X2 y.f2.f0.length d2):=(blk_cell hg _).trans (hget 2 _ rfl);have hcu1:=hget 1 _ rfl;have hcu2:=hget 2 _ rfl;clear hget;go_wp2_with (omega);obtain ⟨w3,hw3⟩:∃ w3,w3=wr.alloc (.cells #[.string y.f0,.slice X1 y.f1.length d1,.slice X2 y.f2.f0.length d2] 65):=⟨_,rfl⟩;have hb3:Below wr.heap.size wr w3:=by rw [hw3];exact be
    have hd:w3.heap[wr.heap.size]?=some (.cells #[.string y.f0,.slice X1 y.f1.length d1,.slice X2 y.f2.f0.length d2] 65):=by rw [hw3];simp [World.alloc,-World.alloc_eq]
    rw [← hw3];clear hw3;have hq0:w3.drew.cell? ⟨ga,0,none⟩=some (.slice (some ⟨g,0,none⟩) l0.length l0.length):=pb hb3.drew (zc HGA.out 0);have hq1:w3.drew.cell? ⟨wr.heap.size,1,none⟩=some (.slice X1 y.f1.length d1):=(blk_cell hd 1).trans rfl;have hq2:w3.drew.heap[g]?=some (.cells cur 65 (0,0)):=(hb3.block g (Array.getElem?_eq_some_iff.1 hg).1).trans hg;have hkn:(k:Int)<(l0.length:Int):=by omega
    have hpar:=HZ.out.pars y hmem;have hbod:=HZ.out.bodies y hmem;have hb3d:Below wr.heap.size wr w3.drew:=hb3.drew;refine start_ (n:=9) (S:=fun w'=>w'.cell? ⟨ga,0,none⟩=some (.slice (some ⟨g,0,none⟩) l0.length l0.length)∧w'.cell? ⟨wr.heap.size,1,none⟩=some (.slice X1 y.f1.length d1)∧w'.heap[g]?=some (.cells cur 65 (0,0))) (ds:=[8]) #[false,false,false,false,false,false,false,false,false] (by kernel_rfl) rfl rfl ⟨hq0,hq1,hq2⟩ (fun hHeld=>?_);refine pu 0 26 ?_;refine pu 2 28 ?_;refine pu 3 29 ?_;refine tk 1 27 hHeld ?_;refine tk 4 30 hHeld ?_;refine one_ (i:=5) (N:=some 31) #[true,true,true,true,true,true,false,false,false] rfl rfl (by kernel_rfl) (by decide) (fun K hK=>?_);refine goes_ Tryz.func153 (by kernel_rfl) rfl #[.slice X1 y.f1.length d1] (by rfl) rfl rfl (by simp only [List.map_toArray,List.map_cons,List.map_nil];rfl) ?_;with_reducible refine (cloneS_calls (KT.Row_below (KT.Row_below HA.out hb3) (below_drew1 (Below.refl _ _))) hpar).mono ?_
    rintro e w4 ⟨Y1,Ga,rfl,hra,hna,hb⟩;refine ⟨_,rfl,?_⟩;refine hK.out _ _ ⟨pb hb hHeld.1,pb hb hHeld.2.1,(hb.block _ (Array.getElem?_eq_some_iff.1 hHeld.2.2).1).trans hHeld.2.2⟩ (fun hHeld=>?_);clear hK K;refine nr ?_;refine pu 6 32 ?_;refine pu 7 33 ?_;refine last_ (i:=8) (N:=none) #[true,true,true,true,true,true,true,true,true] rfl rfl (by kernel_rfl) (by decide) (fun K hK=>?_);have hs1:=(blk_cell hHeld.2.2 (k * 3+1)).trans hcu1;have hsf:=blk_frozen hHeld.2.2 (k * 3+1);refine skip_ (w1:=?_) (by rfl) rfl ?_ ?_;rotate_left
    ·go_simp
     rfl
    refine hK.out _ _ ?_;clear hK K;refine done_ (by kernel_rfl) ?_;have hbw4:Below wr.heap.size wr w4:=below_then hb3d hb3d.size hb;have hg4:w4.heap[g]?=some (.cells cur 65 (0,0)):=hHeld.2.2;have hga4:w4.heap[ga]?=some (.cells #[.slice (some ⟨g,0,none⟩) l0.length l0.length,.slice B1 l1.length l1.length,.slice B2 l2.length l2.length] 38):=(hbw4.block _ (Array.getElem?_eq_some_iff.1 HGA.out).1).trans HGA.out;have hgg:ga≠g:=blk_ne hga4 hg4 (by decide);have hd4:w4.heap[wr.heap.size]?=some (.cells #[.string y.f0,.slice X1 y.f1.length d1,.slice X2 y.f2.f0.length d2] 65):=(hb.block _ (Array.getElem?_eq_some_iff.1 (show w3.drew.heap[wr.heap.size]?=_ from hd)).1).trans hd;clear hHeld hs1 hsf hq0 hq1 hq2;obtain ⟨w5,hw5⟩:∃ w5,w5=w4.setCell ⟨g,k * 3+1,none⟩ (.slice Y1 y.f1.length y.f1.length):=⟨_,rfl⟩;have hk5:∀ q,q≠g→w5.heap[q]?=w4.heap[q]?:=fun q hq=>by rw [hw5];exact Below.heap_setCell _ _ _ _ hq
    have hz5:w5.heap.size=w4.heap.size:=by rw [hw5];simp [World.setCell]
    have hg5:w5.heap[g]?=some (.cells (cur.setIfInBounds (k * 3+1) (.slice Y1 y.f1.length y.f1.length)) 65 (0,0)):=by rw [hw5];exact blk_set hg4 _ _
    have HB5:Below w.heap.size w w5:=by rw [hw5];exact (below_then HB.out HB.out.size hbw4).setCell (show w.heap.size≤g from hg0) _
    rw [← hw5];clear hw5;have hgd:wr.heap.size≠g:=by omega
    have hq0:w5.drew.cell? ⟨ga,0,none⟩=some (.slice (some ⟨g,0,none⟩) l0.length l0.length):=(blk_cell ((hk5 _ hgg).trans hga4) 0).trans rfl;have hq1:w5.drew.cell? ⟨wr.heap.size,2,none⟩=some (.slice X2 y.f2.f0.length d2):=(blk_cell ((hk5 _ hgd).trans hd4) 2).trans rfl;have hq2:w5.drew.heap[g]?=some (.cells (cur.setIfInBounds (k * 3+1) (.slice Y1 y.f1.length y.f1.length)) 65 (0,0)):=hg5;have hcu3:(cur.setIfInBounds (k * 3+1) (.slice Y1 y.f1.length y.f1.length))[k * 3+2]?=some (.slice X2 y.f2.f0.length d2):=by rw [Array.getElem?_setIfInBounds_ne (by omega)];exact hcu2
    have hB5:tN.Row 102 w5 Qb (.slice X2 y.f2.f0.length d2) y.f2.f0:=KT.Row_frame (fun q hq=>hk5 q (fun e=>by have:=hQ q (List.mem_append_left _ (List.mem_append_right _ hq));omega)) (KT.Row_below HBb.out hbw4);go_wp2_with fail;refine start_ (n:=11) (S:=fun w'=>w'.cell? ⟨ga,0,none⟩=some (.slice (some ⟨g,0,none⟩) l0.length l0.length)∧w'.cell? ⟨wr.heap.size,2,none⟩=some (.slice X2 y.f2.f0.length d2)∧w'.heap[g]?=some (.cells (cur.setIfInBounds (k * 3+1) (.slice Y1 y.f1.length y.f1.length)) 65 (0,0))) (ds:=[10]) #[false,false,false,false,false,false,false,false,false,false,false] (by kernel_rfl) rfl rfl ⟨hq0,hq1,hq2⟩ (fun hHeld=>?_);refine pu 0 34 ?_;refine pu 2 36 ?_;refine pu 3 37 ?_;refine pu 4 38 ?_;refine tk 1 35 hHeld ?_;refine tk 5 39 hHeld ?_;refine one_ (i:=6) (N:=some 40) #[true,true,true,true,true,true,true,false,false,false,false] rfl rfl (by kernel_rfl) (by decide) (fun K hK=>?_);refine goes_ Tryz.func183 (by kernel_rfl) rfl #[.slice X2 y.f2.f0.length d2] (by rfl) rfl rfl (by simp only [List.map_toArray,List.map_cons,List.map_nil];rfl) ?_;with_reducible refine (cloneN_calls (KT.Row_below hB5 (below_drew1 (Below.refl _ _))) hbod).mono ?_
    rintro e w6 ⟨Y2,Gb,rfl,hrb,hnb,hbb⟩;refine ⟨_,rfl,?_⟩;refine hK.out _ _ ⟨pb hbb hHeld.1,pb hbb hHeld.2.1,(hbb.block _ (Array.getElem?_eq_some_iff.1 hHeld.2.2).1).trans hHeld.2.2⟩ (fun hHeld=>?_);clear hK K;refine nr ?_;refine pu 7 41 ?_;refine pu 8 42 ?_;refine pu 9 43 ?_;refine last_ (i:=10) (N:=none) #[true,true,true,true,true,true,true,true,true,true,true] rfl rfl (by kernel_rfl) (by decide) (fun K hK=>?_);have hs1:=(blk_cell hHeld.2.2 (k * 3+2)).trans hcu3;have hsf:=blk_frozen hHeld.2.2 (k * 3+2);refine skip_ (w1:=?_) (by rfl) rfl ?_ ?_;rotate_left
    ·go_simp
     rfl
    refine hK.out _ _ ?_;clear hK K;refine done_ (by kernel_rfl) ?_;have hz3:wr.heap.size+1≤w3.heap.size:=(Array.getElem?_eq_some_iff.1 hd).1;have hz4:w3.drew.heap.size≤w4.heap.size:=hb.size;have hz4':w3.heap.size≤w4.heap.size:=hz4;have hg6:w6.heap[g]?=some (.cells (cur.setIfInBounds (k * 3+1) (.slice Y1 y.f1.length y.f1.length)) 65 (0,0)):=hHeld.2.2;have hk6:∀ q,q<w5.heap.size→w6.heap[q]?=w5.heap[q]?:=fun q hq=>hbb.block q hq
    obtain ⟨w7,hw7⟩:∃ w7,w7=w6.setCell ⟨g,k * 3+2,none⟩ (.slice Y2 y.f2.f0.length y.f2.f0.length):=⟨_,rfl⟩;have hk7:∀ q,q≠g→w7.heap[q]?=w6.heap[q]?:=fun q hq=>by rw [hw7];exact Below.heap_setCell _ _ _ _ hq
    have hg7:=blk_set hg6 (k * 3+2) (.slice Y2 y.f2.f0.length y.f2.f0.length);rw [← hw7] at hg7;have hz7:w7.heap.size=w6.heap.size:=by rw [hw7];simp [World.setCell]
    have hz6:w5.heap.size≤w6.heap.size:=hbb.size;have HB7:Below w.heap.size w w7:=by
     rw [hw7];exact (below_then HB5 HB5.size (below_then (below_drew1 (Below.refl _ _)) (Nat.le_refl _) hbb)).setCell (show w.heap.size≤g from hg0) _
    rw [← hw7];clear hw7 hHeld hs1 hsf;have hfr:∀ q,q<wr.heap.size→q≠g→w7.heap[q]?=wr.heap[q]?:=fun q h1 h2=>(hk7 q h2).trans ((hk6 q (by omega)).trans ((hk5 q h2).trans (hbw4.block q h1)))
    have hfa:=KT.leaf_fresh hra hna;have hfb:=KT.leaf_fresh hrb hnb;have hla:=KT.Row_lt hra;have hra7:tS.Row 9 w7 Ga (.slice Y1 y.f1.length y.f1.length) y.f1:=KT.Row_frame (fun q hq=>by
     have h1:=hla q hq;have h2:w3.heap.size≤q:=hfa.2 q hq;have h3:q≠g:=by omega
     exact (hk7 q h3).trans ((hk6 q (by omega)).trans (hk5 q h3))) hra
    have hrb7:tN.Row 102 w7 Gb (.slice Y2 y.f2.f0.length y.f2.f0.length) y.f2.f0:=KT.Row_frame (fun q hq=>by
     have h2:w5.heap.size≤q:=hfb.2 q hq;exact hk7 q (by omega)) hrb
    have hH2:=KT.half_step (t:=t65) (y:=y) (c':=[.string y.f0,.slice Y1 y.f1.length y.f1.length,.slice Y2 y.f2.f0.length y.f2.f0.length]) (G:=Ga++Gb) hg hcl hlt HTK.out hL1 hLr (fun q hq=>hQ q (List.mem_append_right _ hq)) hg0 hg1 hg1 hPn hP1 hb1 hfr hg7
     (by rw [Array.toList_setIfInBounds,Array.toList_setIfInBounds,hcc];exact KT.set_two cp r _ _ _ _ _ _ hcl3) ⟨Ga,Gb,_,_,rfl,rfl,hra7,hrb7⟩
     (List.nodup_append.2 ⟨hfa.1,hfb.1,fun a ha b hb e=>by
      have h1:=hla a ha;have h2:w5.heap.size≤b:=hfb.2 b hb
      omega⟩)
     (fun q hq=>by
      rcases List.mem_append.1 hq with h|h
      ·have h2:w3.heap.size≤q:=hfa.2 q h;omega
      ·have h2:w5.heap.size≤q:=hfb.2 q h
       omega)
    have hm1:=KT.row_not_mem HR1.out HN.out.2.1 (KT.Row_lt HS1.out) hg0 hg (by decide);have hm2:=KT.row_not_mem HR2.out HN.out.2.2.1 (KT.Row_lt HS2.out) hg0 hg (by decide);have HR1':=am (KT.Row_frame (w':=w7) (fun q hq=>hfr q (KT.Row_lt HR1.out q hq) (fun e=>hm1 (e ▸ hq))) HR1.out);have HR2':=am (KT.Row_frame (w':=w7) (fun q hq=>hfr q (KT.Row_lt HR2.out q hq) (fun e=>hm2 (e ▸ hq))) HR2.out);have HGA':=(hfr ga (Array.getElem?_eq_some_iff.1 HGA.out).1 hgg).trans HGA.out;have HG2':=(hfr _ (Array.getElem?_eq_some_iff.1 HG2.out).1 (blk_ne HG2.out hg (by decide))).trans HG2.out;go_wp2_with fail
    go_roundw
    case rel=>exact ⟨k+1,_,by omega,by go_num,⟨hH2⟩,HR1',HR2',⟨HGA'⟩,⟨HG2'⟩,⟨HB7⟩,by omega⟩
    case measure=>simp [intOf];omega
  ·have e1:k=l0.length:=by omega
   subst e1;obtain ⟨FD,hRD,hND,hFD,hP1,hP2⟩:=KT.half_end HH.out (Nat.le_refl _) (by omega);have HD:=am hRD;have HFD:Aside0 ((FD=[]∨∃ g0,FD=g0 :: P)∧∀ p,p∈P→b1≤p):=⟨⟨hFD.elim .inl (fun ⟨g0,h,_⟩=>.inr ⟨g0,h⟩),hP1⟩⟩;have HFD2:=am (And.intro hND (And.intro hFD hP2));clear hRD hND hFD hP1 hP2 HH;have hc2:wr.cell? ⟨ga,2,none⟩=some (.slice B2 l2.length l2.length):=(blk_cell HGA.out 2).trans rfl;have hn2:=HZ.out.n2;go_wp2_with (omega);have hH:=KT.half_start (bg:=b1) HR2.out HN.out.2.2.1 (KT.Row_lt HS2.out) HBL.out.2.1;obtain ⟨b2,hb2⟩:∃ b2,b2=wr.heap.size:=⟨_,rfl⟩;rw [← hb2] at hH;have HH:=am hH;have HFD3:Aside0 (∀ p,p∈P→p<b2):=⟨fun p hp=>by rw [hb2];exact HFD2.out.2.2 p hp⟩;have hb12:b1≤b2:=by omega
   have HFDa:Aside0 (∀ a,a∈FD→w.heap.size≤a∧a<b2):=⟨fun a ha=>by
    have hlg:=HBL.out.2.2
    rcases HFD2.out.2.1 with h|⟨g0,h,h1,h2⟩
    ·rw [h] at ha;cases ha
    ·rw [h] at ha
     rcases List.mem_cons.1 ha with rfl|hp
     ·exact ⟨h1,by omega⟩
     ·have h3:=HFD.out.2 a hp;exact ⟨by omega,HFD3.out a hp⟩⟩
   go_loopw [48] (fun i wr=>∃ (k:Nat) (P:List Nat),k≤l2.length∧i=.int .i64 k∧Aside0 (t63.Half 63 wr w.heap.size b1 b2 B2 l2 k P)∧Aside0 (tS.Row 9 wr G1 (.slice B1 l1.length l1.length) l1)∧Aside0 (t65.Row 65 wr FD (.slice B0 l0.length l0.length) l0)∧Aside0 (wr.heap[ga]?=some (.cells #[.slice B0 l0.length l0.length,.slice B1 l1.length l1.length,.slice B2 l2.length l2.length] 38))∧Aside0 (wr.heap[w.heap.size+1]?=some Z38)∧Aside0 (Below w.heap.size w wr)∧b2≤wr.heap.size) (fun i _=>l2.length - (intOf i).toNat)
   case atStart=>exact ⟨0,[],Nat.zero_le _,rfl,HH,HR1,HD,HGA,HG2,HB,by omega⟩
   case round=>
    clear HH HR1 HR2 HD HGA HG2 HB hc2 hb2 hH;obtain ⟨k,P,hk,rfl,HH,HR1,HD,HGA,HG2,HB,hb1⟩:=hrel
    by_cases hlt:k<l2.length
    ·rcases HH.out with ⟨rfl,_,_⟩|⟨g,cur,Q,cp,cq,rfl,hg,hcc,hcl,hL1,hL2,hQ,hg0,hg1,hPn,hP1⟩
     ·simp at hlt
     ·clear HH;obtain ⟨y,hy⟩:∃ y,y=l2[k]:=⟨_,rfl⟩;have hmem:y∈l2:=by rw [hy];exact List.getElem_mem _
      have hD:=List.drop_eq_getElem_cons hlt;rw [← hy] at hD;rw [hD] at hL2;have HTK:Aside0 (l2.take (k+1)=l2.take k++[y]):=⟨by rw [List.take_succ_eq_append_getElem hlt,← hy]⟩;clear hy hD;obtain ⟨Q1,Q2,c,r,hQe,hcq,⟨Qa,Qb,v1,v2,hQ1,hce,hra,hrb⟩,hLr⟩:=hL2;have HA:=am hra;have HBb:=am hrb;obtain ⟨X1,d1,rfl,hd1,_⟩:=hra;obtain ⟨X2,d2,rfl,hd2,_⟩:=hrb;clear hd1 hd2;subst hce;subst hcq;subst hQ1;subst hQe;have hcl3:cp.length=k * 3:=hcl;have hget:∀ j u,[Value.int .i64 y.f0,.slice X1 y.f1.f0.length d1,.slice X2 y.f2.f0.length d2][j]?=some u→cur[k * 3+j]?=some u:=fun j u hj=>by
       have hj3:j<3:=by have:=(List.getElem?_eq_some_iff.1 hj).1;simpa using this
       rw [← Array.getElem?_toList,hcc,← hcl3,List.getElem?_append_right (by omega),Nat.add_sub_cancel_left,List.getElem?_append_left (by simpa using hj3)];exact hj
      have hx0:wr.cell? ⟨g,k * 3,none⟩=some (.int .i64 y.f0):=(blk_cell hg _).trans (hget 0 _ rfl);have hx1:wr.cell? ⟨g,k * 3+1,none⟩=some (.slice X1 y.f1.f0.length d1):=(blk_cell hg _).trans (hget 1 _ rfl);have hx2:wr.cell? ⟨g,k * 3+2,none⟩=some (.slice X2 y.f2.f0.length d2):=(blk_cell hg _).trans (hget 2 _ rfl);have hcu1:=hget 1 _ rfl;have hcu2:=hget 2 _ rfl;clear hget;go_wp2_with (omega);obtain ⟨w3,hw3⟩:∃ w3,w3=wr.alloc (.cells #[.int .i64 y.f0,.slice X1 y.f1.f0.length d1,.slice X2 y.f2.f0.length d2] 63):=⟨_,rfl⟩;have hb3:Below wr.heap.size wr w3:=by rw [hw3];exact be
      have hd:w3.heap[wr.heap.size]?=some (.cells #[.int .i64 y.f0,.slice X1 y.f1.f0.length d1,.slice X2 y.f2.f0.length d2] 63):=by rw [hw3];simp [World.alloc,-World.alloc_eq]
      rw [← hw3];clear hw3;have hq0:w3.drew.cell? ⟨ga,2,none⟩=some (.slice (some ⟨g,0,none⟩) l2.length l2.length):=pb hb3.drew (zc HGA.out 2);have hq1:w3.drew.cell? ⟨wr.heap.size,1,none⟩=some (.slice X1 y.f1.f0.length d1):=(blk_cell hd 1).trans rfl;have hq2:w3.drew.heap[g]?=some (.cells cur 63 (0,0)):=(hb3.block g (Array.getElem?_eq_some_iff.1 hg).1).trans hg;have hkn:(k:Int)<(l2.length:Int):=by omega
      have hpar:=(HZ.out.sides y hmem).1;have hbod:=(HZ.out.sides y hmem).2;have hb3d:Below wr.heap.size wr w3.drew:=hb3.drew;refine start_ (n:=11) (S:=fun w'=>w'.cell? ⟨ga,2,none⟩=some (.slice (some ⟨g,0,none⟩) l2.length l2.length)∧w'.cell? ⟨wr.heap.size,1,none⟩=some (.slice X1 y.f1.f0.length d1)∧w'.heap[g]?=some (.cells cur 63 (0,0))) (ds:=[10]) #[false,false,false,false,false,false,false,false,false,false,false] (by kernel_rfl) rfl rfl ⟨hq0,hq1,hq2⟩ (fun hHeld=>?_);refine pu 0 53 ?_;refine pu 2 55 ?_;refine pu 3 56 ?_;refine pu 4 57 ?_;refine tk 1 54 hHeld ?_;refine tk 5 58 hHeld ?_;refine one_ (i:=6) (N:=some 59) #[true,true,true,true,true,true,true,false,false,false,false] rfl rfl (by kernel_rfl) (by decide) (fun K hK=>?_);refine goes_ Tryz.func183 (by kernel_rfl) rfl #[.slice X1 y.f1.f0.length d1] (by rfl) rfl rfl (by simp only [List.map_toArray,List.map_cons,List.map_nil];rfl) ?_;with_reducible refine (cloneN_calls (KT.Row_below (KT.Row_below HA.out hb3) (below_drew1 (Below.refl _ _))) hpar).mono ?_
      rintro e w4 ⟨Y1,Ga,rfl,hra,hna,hb⟩;refine ⟨_,rfl,?_⟩;refine hK.out _ _ ⟨pb hb hHeld.1,pb hb hHeld.2.1,(hb.block _ (Array.getElem?_eq_some_iff.1 hHeld.2.2).1).trans hHeld.2.2⟩ (fun hHeld=>?_);clear hK K;refine nr ?_;refine pu 7 60 ?_;refine pu 8 61 ?_;refine pu 9 62 ?_;refine last_ (i:=10) (N:=none) #[true,true,true,true,true,true,true,true,true,true,true] rfl rfl (by kernel_rfl) (by decide) (fun K hK=>?_);have hs1:=(blk_cell hHeld.2.2 (k * 3+1)).trans hcu1;have hsf:=blk_frozen hHeld.2.2 (k * 3+1);refine skip_ (w1:=?_) (by rfl) rfl ?_ ?_;rotate_left
      ·go_simp
       rfl
      refine hK.out _ _ ?_;clear hK K;refine done_ (by kernel_rfl) ?_;have hbw4:Below wr.heap.size wr w4:=below_then hb3d hb3d.size hb;have hg4:w4.heap[g]?=some (.cells cur 63 (0,0)):=hHeld.2.2;have hga4:w4.heap[ga]?=some (.cells #[.slice B0 l0.length l0.length,.slice B1 l1.length l1.length,.slice (some ⟨g,0,none⟩) l2.length l2.length] 38):=(hbw4.block _ (Array.getElem?_eq_some_iff.1 HGA.out).1).trans HGA.out;have hgg:ga≠g:=blk_ne hga4 hg4 (by decide);have hd4:w4.heap[wr.heap.size]?=some (.cells #[.int .i64 y.f0,.slice X1 y.f1.f0.length d1,.slice X2 y.f2.f0.length d2] 63):=(hb.block _ (Array.getElem?_eq_some_iff.1 (show w3.drew.heap[wr.heap.size]?=_ from hd)).1).trans hd;clear hHeld hs1 hsf hq0 hq1 hq2;obtain ⟨w5,hw5⟩:∃ w5,w5=w4.setCell ⟨g,k * 3+1,none⟩ (.slice Y1 y.f1.f0.length y.f1.f0.length):=⟨_,rfl⟩;have hk5:∀ q,q≠g→w5.heap[q]?=w4.heap[q]?:=fun q hq=>by rw [hw5];exact Below.heap_setCell _ _ _ _ hq
      have hz5:w5.heap.size=w4.heap.size:=by rw [hw5];simp [World.setCell]
      have hg5:w5.heap[g]?=some (.cells (cur.setIfInBounds (k * 3+1) (.slice Y1 y.f1.f0.length y.f1.f0.length)) 63 (0,0)):=by rw [hw5];exact blk_set hg4 _ _
      have HB5:Below w.heap.size w w5:=by rw [hw5];exact (below_then HB.out HB.out.size hbw4).setCell (show w.heap.size≤g from hg0) _
      rw [← hw5];clear hw5;have hgd:wr.heap.size≠g:=by omega
      have hq0:w5.drew.cell? ⟨ga,2,none⟩=some (.slice (some ⟨g,0,none⟩) l2.length l2.length):=(blk_cell ((hk5 _ hgg).trans hga4) 2).trans rfl;have hq1:w5.drew.cell? ⟨wr.heap.size,2,none⟩=some (.slice X2 y.f2.f0.length d2):=(blk_cell ((hk5 _ hgd).trans hd4) 2).trans rfl;have hq2:w5.drew.heap[g]?=some (.cells (cur.setIfInBounds (k * 3+1) (.slice Y1 y.f1.f0.length y.f1.f0.length)) 63 (0,0)):=hg5;have hcu3:(cur.setIfInBounds (k * 3+1) (.slice Y1 y.f1.f0.length y.f1.f0.length))[k * 3+2]?=some (.slice X2 y.f2.f0.length d2):=by rw [Array.getElem?_setIfInBounds_ne (by omega)];exact hcu2
      have hB5:tN.Row 102 w5 Qb (.slice X2 y.f2.f0.length d2) y.f2.f0:=KT.Row_frame (fun q hq=>hk5 q (fun e=>by have:=hQ q (List.mem_append_left _ (List.mem_append_right _ hq));omega)) (KT.Row_below HBb.out hbw4);go_wp2_with fail;refine start_ (n:=11) (S:=fun w'=>w'.cell? ⟨ga,2,none⟩=some (.slice (some ⟨g,0,none⟩) l2.length l2.length)∧w'.cell? ⟨wr.heap.size,2,none⟩=some (.slice X2 y.f2.f0.length d2)∧w'.heap[g]?=some (.cells (cur.setIfInBounds (k * 3+1) (.slice Y1 y.f1.f0.length y.f1.f0.length)) 63 (0,0))) (ds:=[10]) #[false,false,false,false,false,false,false,false,false,false,false] (by kernel_rfl) rfl rfl ⟨hq0,hq1,hq2⟩ (fun hHeld=>?_);refine pu 0 63 ?_;refine pu 2 65 ?_;refine pu 3 66 ?_;refine pu 4 67 ?_;refine tk 1 64 hHeld ?_;refine tk 5 68 hHeld ?_;refine one_ (i:=6) (N:=some 69) #[true,true,true,true,true,true,true,false,false,false,false] rfl rfl (by kernel_rfl) (by decide) (fun K hK=>?_);refine goes_ Tryz.func183 (by kernel_rfl) rfl #[.slice X2 y.f2.f0.length d2] (by rfl) rfl rfl (by simp only [List.map_toArray,List.map_cons,List.map_nil];rfl) ?_;with_reducible refine (cloneN_calls (KT.Row_below hB5 (below_drew1 (Below.refl _ _))) hbod).mono ?_
      rintro e w6 ⟨Y2,Gb,rfl,hrb,hnb,hbb⟩;refine ⟨_,rfl,?_⟩;refine hK.out _ _ ⟨pb hbb hHeld.1,pb hbb hHeld.2.1,(hbb.block _ (Array.getElem?_eq_some_iff.1 hHeld.2.2).1).trans hHeld.2.2⟩ (fun hHeld=>?_);clear hK K;refine nr ?_;refine pu 7 70 ?_;refine pu 8 71 ?_;refine pu 9 72 ?_;refine last_ (i:=10) (N:=none) #[true,true,true,true,true,true,true,true,true,true,true] rfl rfl (by kernel_rfl) (by decide) (fun K hK=>?_);have hs1:=(blk_cell hHeld.2.2 (k * 3+2)).trans hcu3;have hsf:=blk_frozen hHeld.2.2 (k * 3+2);refine skip_ (w1:=?_) (by rfl) rfl ?_ ?_;rotate_left
      ·go_simp
       rfl
      refine hK.out _ _ ?_;clear hK K;refine done_ (by kernel_rfl) ?_;have hz3:wr.heap.size+1≤w3.heap.size:=(Array.getElem?_eq_some_iff.1 hd).1;have hz4:w3.drew.heap.size≤w4.heap.size:=hb.size;have hz4':w3.heap.size≤w4.heap.size:=hz4;have hg6:w6.heap[g]?=some (.cells (cur.setIfInBounds (k * 3+1) (.slice Y1 y.f1.f0.length y.f1.f0.length)) 63 (0,0)):=hHeld.2.2;have hk6:∀ q,q<w5.heap.size→w6.heap[q]?=w5.heap[q]?:=fun q hq=>hbb.block q hq
      obtain ⟨w7,hw7⟩:∃ w7,w7=w6.setCell ⟨g,k * 3+2,none⟩ (.slice Y2 y.f2.f0.length y.f2.f0.length):=⟨_,rfl⟩;have hk7:∀ q,q≠g→w7.heap[q]?=w6.heap[q]?:=fun q hq=>by rw [hw7];exact Below.heap_setCell _ _ _ _ hq
      have hg7:=blk_set hg6 (k * 3+2) (.slice Y2 y.f2.f0.length y.f2.f0.length);rw [← hw7] at hg7;have hz7:w7.heap.size=w6.heap.size:=by rw [hw7];simp [World.setCell]
      have hz6:w5.heap.size≤w6.heap.size:=hbb.size;have HB7:Below w.heap.size w w7:=by
       rw [hw7];exact (below_then HB5 HB5.size (below_then (below_drew1 (Below.refl _ _)) (Nat.le_refl _) hbb)).setCell (show w.heap.size≤g from hg0) _
      rw [← hw7];clear hw7 hHeld hs1 hsf;have hfr:∀ q,q<wr.heap.size→q≠g→w7.heap[q]?=wr.heap[q]?:=fun q h1 h2=>(hk7 q h2).trans ((hk6 q (by omega)).trans ((hk5 q h2).trans (hbw4.block q h1)))
      have hfa:=KT.leaf_fresh hra hna;have hfb:=KT.leaf_fresh hrb hnb;have hla:=KT.Row_lt hra;have hra7:tN.Row 102 w7 Ga (.slice Y1 y.f1.f0.length y.f1.f0.length) y.f1.f0:=KT.Row_frame (fun q hq=>by
       have h1:=hla q hq;have h2:w3.heap.size≤q:=hfa.2 q hq;have h3:q≠g:=by omega
       exact (hk7 q h3).trans ((hk6 q (by omega)).trans (hk5 q h3))) hra
      have hrb7:tN.Row 102 w7 Gb (.slice Y2 y.f2.f0.length y.f2.f0.length) y.f2.f0:=KT.Row_frame (fun q hq=>by
       have h2:w5.heap.size≤q:=hfb.2 q hq;exact hk7 q (by omega)) hrb
      have hH2:=KT.half_step (t:=t63) (y:=y) (c':=[.int .i64 y.f0,.slice Y1 y.f1.f0.length y.f1.f0.length,.slice Y2 y.f2.f0.length y.f2.f0.length]) (G:=Ga++Gb) hg hcl hlt HTK.out hL1 hLr (fun q hq=>hQ q (List.mem_append_right _ hq)) hg0 hg1 (by omega) hPn hP1 hb1 hfr hg7
       (by rw [Array.toList_setIfInBounds,Array.toList_setIfInBounds,hcc];exact KT.set_two cp r _ _ _ _ _ _ hcl3) ⟨Ga,Gb,_,_,rfl,rfl,hra7,hrb7⟩
       (List.nodup_append.2 ⟨hfa.1,hfb.1,fun a ha b hb e=>by
        have h1:=hla a ha;have h2:w5.heap.size≤b:=hfb.2 b hb
        omega⟩)
       (fun q hq=>by
        rcases List.mem_append.1 hq with h|h
        ·have h2:w3.heap.size≤q:=hfa.2 q h;omega
        ·have h2:w5.heap.size≤q:=hfb.2 q h
         omega)
      have hm1:=KT.row_not_mem HR1.out HN.out.2.1 (KT.Row_lt HS1.out) hg0 hg (by decide);have hm2:=KT.not_mem_end HD.out HFD.out.1 HFD.out.2 hg1 hg (by decide);have HR1':=am (KT.Row_frame (w':=w7) (fun q hq=>hfr q (KT.Row_lt HR1.out q hq) (fun e=>hm1 (e ▸ hq))) HR1.out);have HD':=am (KT.Row_frame (w':=w7) (fun q hq=>hfr q (KT.Row_lt HD.out q hq) (fun e=>hm2 (e ▸ hq))) HD.out);have HGA':=(hfr ga (Array.getElem?_eq_some_iff.1 HGA.out).1 hgg).trans HGA.out;have HG2':=(hfr _ (Array.getElem?_eq_some_iff.1 HG2.out).1 (blk_ne HG2.out hg (by decide))).trans HG2.out;go_wp2_with fail
      go_roundw
      case rel=>exact ⟨k+1,_,by omega,by go_num,⟨hH2⟩,HR1',HD',⟨HGA'⟩,⟨HG2'⟩,⟨HB7⟩,by omega⟩
      case measure=>simp [intOf];omega
    ·have e2:k=l2.length:=by omega
     subst e2;obtain ⟨FR,hRR,hNR,hFR,hR1,hR2⟩:=KT.half_end HH.out (by omega) (by omega);have hlg:=HBL.out.2.2;have hG1:=HBL.out.1;have hfs:=KT.leaf_fresh HR1.out HN.out.2.1;have hN1:w.heap.size+1∉FD:=KT.not_mem_end HD.out HFD.out.1 HFD.out.2 (by omega) HG2.out (by decide);have hN2:w.heap.size+1∉G1:=KT.row_not_mem HR1.out HN.out.2.1 (KT.Row_lt HS1.out) (by omega) HG2.out (by decide);have hN3:w.heap.size+1∉FR:=KT.not_mem_end hRR (hFR.elim .inl (fun ⟨g0,h,_⟩=>.inr ⟨g0,h⟩)) hR1 (by omega) HG2.out (by decide);have hA1:∀ a,a∈FD→∀ b,b∈G1→a≠b:=fun a ha b hb e=>by
      subst e;obtain ⟨cur,hc⟩:=KT.leaf_typed HR1.out a hb;exact KT.not_mem_end HD.out HFD.out.1 HFD.out.2 (hG1 a hb) hc (by decide) ha
     have hA2:∀ a,a∈FD→∀ b,b∈FR→a≠b:=fun a ha b hb e=>by
      subst e
      rcases hFR with h|⟨g2,h,h1,h2⟩
      ·rw [h] at hb;cases hb
      ·subst h
       rcases List.mem_cons.1 hb with rfl|hp
       ·obtain ⟨cur,hc⟩:=KT.row_typed hRR;exact KT.not_mem_end HD.out HFD.out.1 HFD.out.2 h2 hc (by decide) ha
       ·have:=hR1 a hp;have:=(HFDa.out a ha).2;omega
     have hA3:∀ a,a∈G1→∀ b,b∈FR→a≠b:=fun a ha b hb e=>by
      subst e;obtain ⟨cur,hc⟩:=KT.leaf_typed HR1.out a ha;exact KT.not_mem_end hRR (hFR.elim .inl (fun ⟨g0,h,_⟩=>.inr ⟨g0,h⟩)) hR1 (by have:=hG1 a ha;omega) hc (by decide) hb
     have hND:=HFD2.out.1;have hFRb:∀ b,b∈FR→w.heap.size≤b:=fun b hb=>by
      rcases hFR with h|⟨g2,h,h1,h2⟩
      ·rw [h] at hb;cases hb
      ·rw [h] at hb
       rcases List.mem_cons.1 hb with rfl|hp
       ·exact h1
       ·have:=hR1 b hp;omega
     have hfin:(FD++G1++FR).Nodup:=List.nodup_append.2 ⟨List.nodup_append.2 ⟨hND,hfs.1,hA1⟩,hNR,fun a ha b hb e=>by
      rcases List.mem_append.1 ha with h|h
      ·exact hA2 a h b hb e
      ·exact hA3 a h b hb e⟩
     have hfb:∀ a,a∈FD++G1++FR→w.heap.size≤a:=fun a ha=>by
      rcases List.mem_append.1 ha with h|h
      ·rcases List.mem_append.1 h with h|h
       ·exact (HFDa.out a h).1
       ·exact hfs.2 a h
      ·exact hFRb a h
     have hPT:∀ w',(∀ q,q≠w.heap.size+1→w'.heap[q]?=wr.heap[q]?)→PT w' (FD++G1++FR) (.agg #[.slice B0 l0.length l0.length,.slice B1 l1.length l1.length,.slice B2 l2.length l2.length]) l0 l1 l2:=fun w' hk=>
      ⟨FD,G1,FR,_,_,_,rfl,rfl,KT.Row_frame (fun q hq=>hk q (fun e=>hN1 (e ▸ hq))) HD.out,KT.Row_frame (fun q hq=>hk q (fun e=>hN2 (e ▸ hq))) HR1.out,KT.Row_frame (fun q hq=>hk q (fun e=>hN3 (e ▸ hq))) hRR⟩
     have HPT:=am hPT;have HFIN:=am (And.intro hfin hfb);have hd0:wr.cell? ⟨ga,0,none⟩=some (.slice B0 l0.length l0.length):=(blk_cell HGA.out 0).trans rfl;have hd1:wr.cell? ⟨ga,1,none⟩=some (.slice B1 l1.length l1.length):=(blk_cell HGA.out 1).trans rfl;have hd2:wr.cell? ⟨ga,2,none⟩=some (.slice B2 l2.length l2.length):=(blk_cell HGA.out 2).trans rfl;have he0:wr.cell? ⟨w.heap.size+1,0,none⟩=some (.slice none 0 0):=(blk_cell HG2.out 0).trans rfl;have he1:wr.cell? ⟨w.heap.size+1,1,none⟩=some (.slice none 0 0):=(blk_cell HG2.out 1).trans rfl;have he2:wr.cell? ⟨w.heap.size+1,2,none⟩=some (.slice none 0 0):=(blk_cell HG2.out 2).trans rfl;have hf0:=blk_frozen HG2.out 0;have hf1:=blk_frozen HG2.out 1;have hf2:=blk_frozen HG2.out 2;clear hPT hfin hfb hFRb hND hA1 hA2 hA3 hN1 hN2 hN3 hfs hG1 hlg hRR hNR hFR hR1 hR2 HH HFDa HFD3;go_wp2_with (omega);obtain ⟨wF,hwF⟩:∃ wF,wF=(((wr.setCell ⟨w.heap.size+1,0,none⟩ (.slice B0 l0.length l0.length)).setCell ⟨w.heap.size+1,1,none⟩ (.slice B1 l1.length l1.length)).setCell ⟨w.heap.size+1,2,none⟩ (.slice B2 l2.length l2.length)):=⟨_,rfl⟩;have hF:wF.heap[w.heap.size+1]?=some (.cells #[.slice B0 l0.length l0.length,.slice B1 l1.length l1.length,.slice B2 l2.length l2.length] 38):=by rw [hwF];exact blk_put (blk_put (blk_put HG2.out 0 _ rfl) 1 _ rfl) 2 _ rfl
     have HP2:=HPT.out wF (fun q hq=>by rw [hwF];exact (Below.heap_setCell _ _ _ _ hq).trans ((Below.heap_setCell _ _ _ _ hq).trans (Below.heap_setCell _ _ _ _ hq)));have HBF:Below w.heap.size w wF:=by rw [hwF];exact ((HB.out.setCell (show w.heap.size≤w.heap.size+1 by omega) _).setCell (show w.heap.size≤w.heap.size+1 by omega) _).setCell (show w.heap.size≤w.heap.size+1 by omega) _
     have p0:wF.cell? ⟨w.heap.size+1,0,none⟩=some (.slice B0 l0.length l0.length):=(blk_cell hF 0).trans rfl;have p1:wF.cell? ⟨w.heap.size+1,1,none⟩=some (.slice B1 l1.length l1.length):=(blk_cell hF 1).trans rfl;have p2:wF.cell? ⟨w.heap.size+1,2,none⟩=some (.slice B2 l2.length l2.length):=(blk_cell hF 2).trans rfl;rw [← hwF];clear hwF;refine bodyPost_ret (v:=.agg #[.slice B0 l0.length l0.length,.slice B1 l1.length l1.length,.slice B2 l2.length l2.length]) (by simp [results,Tryz.results81,go_sem,p0,p1,p2]) rfl ?_;exact ⟨_,_,rfl,HP2,HFIN.out.1,HFIN.out.2,HBF⟩
end Go.Proofs.YtbahacapnaohcaaGreatDoor.PB
