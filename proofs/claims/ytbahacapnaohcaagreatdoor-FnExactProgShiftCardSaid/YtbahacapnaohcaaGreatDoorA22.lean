import Derived.Test.YtbahacapnaohcaaGreatDoorA21
import Derived.Test.YtbahacapnaohcaaGreatDoorA18
import Derived.Test.YtbahacapnaohcaaGreatDoorPBx21
set_option linter.unusedVariables false
set_option linter.unusedSimpArgs false
namespace Go.Proofs.YtbahacapnaohcaaGreatDoor.PB
open Go.RowKit Go.Proofs.YtbahacapnaohcaaGreatDoorW.PrintWords Go.Proofs.YtbahacapnaohcaaGreatDoorW.PrintLast Go.Proofs.YtbahacapnaohcaaGreatDoorW.PrintMore
section graph
variable {E:Nat→Nat→Prop}
inductive Plus (E:Nat→Nat→Prop):Nat→Nat→Prop where
 | one {a b}:E a b→Plus E a b
 | more {a b c}:Plus E a b→E b c→Plus E a c
theorem Plus.trans {a b c:Nat} (h:Plus E a b) (k:Plus E b c):Plus E a c:=by
 induction k with
 | one e=>exact .more h e
 | more _ e ih=>exact .more ih e
def via (E:Nat→Nat→Prop):Nat→Nat→Nat→Prop
 | 0,a,b=>E a b
 | k+1,a,b=>via E k a b∨(via E k a k∧via E k k b)
theorem via_mono {k m a b:Nat} (h:via E k a b) (hk:k≤m):via E m a b:=by
 induction m with
 | zero=>rw [show k=0 by omega] at h;exact h
 | succ m ih=>
  by_cases e:k=m+1
  ·rw [← e];exact h
  ·exact .inl (ih (by omega))
theorem via_trans:∀ {k a b c:Nat},via E k a b→via E k b c→b<k→via E k a c
 | 0,a,b,c,_,_,h=>by omega
 | k+1,a,b,c,h1,h2,hb=>by
  by_cases e:b=k
  ·subst e;have g1:via E b a b:=by rcases h1 with h|h;exact h;exact h.1
   have g2:via E b b c:=by rcases h2 with h|h;exact h;exact h.2
   exact .inr ⟨g1,g2⟩
  ·rcases h1 with h1|⟨h1,h1'⟩ <;> rcases h2 with h2|⟨h2,h2'⟩
   ·exact .inl (via_trans h1 h2 (by omega))
   ·exact .inr ⟨via_trans h1 h2 (by omega),h2'⟩
   ·exact .inr ⟨h1,via_trans h1' h2 (by omega)⟩
   ·exact .inr ⟨h1,h2'⟩
theorem plus_via {n a b:Nat} (hn:∀ a b,E a b→b<n) (h:Plus E a b):via E n a b:=by
 induction h with
 | one e=>exact via_mono (k:=0) e (Nat.zero_le _)
 | more h1 e ih=>
  have hb:∀ {a b},Plus E a b→b<n:=fun h=>by cases h with|one e=>exact hn _ _ e|more _ e=>exact hn _ _ e
  exact via_trans ih (via_mono (k:=0) e (Nat.zero_le _)) (hb h1)
end graph
def at2 (X:List (List Bool)) (i j:Nat):Bool:=(X.getD i []).getD j false
structure Sq (E:Nat→Nat→Prop) (n:Nat) (X:List (List Bool)):Prop where
 len:X.length=n
 row:∀ i,i<n→(X.getD i []).length=n
 sound:∀ i j,at2 X i j=true→Plus E i j
theorem rdL9 (X:List (List Bool)) (i:Nat):rd_L9 X (i:Int)=X.getD i []:=by unfold rd_L9;rw [Int.toNat_natCast]
theorem rdB (l:List Bool) (i:Nat):rdOf false l (i:Int)=l.getD i false:=by unfold rdOf;rw [Int.toNat_natCast]
theorem at2_set (X:List (List Bool)) (i j a b:Nat) (hi:i<X.length) (hj:j<(X.getD i []).length):at2 (X.set i ((X.getD i []).set j true)) a b=(at2 X a b||(decide (a=i)&&decide (b=j))):=by
 unfold at2
 rw [List.getD_eq_getElem?_getD,List.getD_eq_getElem?_getD,List.getElem?_set]
 by_cases ha:i=a
 ·subst ha;rw [if_pos rfl,if_pos hi,Option.getD_some,List.getElem?_set]
  by_cases hb:j=b
  ·subst hb;rw [if_pos rfl,if_pos hj];simp
  ·rw [if_neg hb,← List.getD_eq_getElem?_getD];simp [show ¬ b=j from fun e=>hb e.symm]
 ·rw [if_neg ha];rw [List.getD_eq_getElem?_getD,List.getD_eq_getElem?_getD]
  simp [show ¬ a=i from fun e=>ha e.symm]
theorem Sq.put {E:Nat→Nat→Prop} {n:Nat} {X:List (List Bool)} (h:Sq E n X) {i j k:Nat} (hi:i<n) (hj:j<n) (h1:at2 X i k=true) (h2:at2 X k j=true):Sq E n (X.set i ((X.getD i []).set j true)):=by
 refine ⟨by rw [List.length_set];exact h.len,fun a ha=>?_,fun a b hab=>?_⟩
 ·rw [List.getD_eq_getElem?_getD,List.getElem?_set]
  by_cases e:i=a
  ·subst e;rw [if_pos rfl,if_pos (by rw [h.len];exact hi),Option.getD_some,List.length_set];exact h.row i hi
  ·rw [if_neg e,← List.getD_eq_getElem?_getD];exact h.row a ha
 ·rw [at2_set X i j a b (by rw [h.len];exact hi) (by rw [h.row i hi];exact hj)] at hab
  rcases Bool.or_eq_true_iff.1 hab with q|q
  ·exact h.sound a b q
  ·simp only [Bool.and_eq_true,decide_eq_true_eq] at q;rw [q.1,q.2];exact (h.sound i k h1).trans (h.sound k j h2)
def Full (E:Nat→Nat→Prop) (n k:Nat) (X:List (List Bool)):Prop:=∀ i j,i<n→j<n→via E k i j→at2 X i j=true
theorem Full.put {E:Nat→Nat→Prop} {n k:Nat} {X:List (List Bool)} (h:Full E n k X) {i j:Nat} (hi:i<X.length) (hj:j<(X.getD i []).length):Full E n k (X.set i ((X.getD i []).set j true)):=fun a b ha hb hv=>by
 rw [at2_set X i j a b hi hj,h a b ha hb hv];rfl
def cost2 (n k:Nat):Nat:=(n - k) * (n * (n+2)+2)+1
def cost3 (n k i:Nat):Nat:=(n - i) * (n+2)+1+cost2 n (k+1)
def cost4 (n k i j:Nat):Nat:=(n - j)+1+cost3 n k (i+1)
theorem cost2_step {n k:Nat} (h:k<n):cost3 n k 0<cost2 n k:=by
 unfold cost3 cost2
 have:(n - k) * (n * (n+2)+2)=(n - (k+1)) * (n * (n+2)+2)+(n * (n+2)+2):=by
  rw [show n - k=(n - (k+1))+1 by omega,Nat.succ_mul]
 rw [this,Nat.sub_zero];omega
theorem cost3_step {n k i:Nat} (h:i<n):cost4 n k i 0<cost3 n k i:=by
 unfold cost4 cost3
 have:(n - i) * (n+2)=(n - (i+1)) * (n+2)+(n+2):=by
  rw [show n - i=(n - (i+1))+1 by omega,Nat.succ_mul]
 rw [this];omega
theorem cost3_end {n k i:Nat}:cost2 n (k+1)<cost3 n k i:=by unfold cost3;omega
theorem cost4_step {n k i j:Nat} (h:j<n):cost4 n k i (j+1)<cost4 n k i j:=by unfold cost4;omega
theorem cost4_end {n k i j:Nat}:cost3 n k (i+1)<cost4 n k i j:=by unfold cost4;omega
section table
variable {E:Nat→Nat→Prop} {n:Nat}
def Ends (E:Nat→Nat→Prop) (n:Nat) (r:Option (List (List Bool))):Prop:=∃ X,r=some X∧Sq E n X∧Full E n n X
theorem table_all (hn:n≤4611686018427387904):∀ d:Nat,
 (∀ X k,k≤n→Sq E n X→Full E n k X→cost2 n k<d→Ends E n (spec_l13Table.l2 d X (k:Int)))∧
 (∀ X k i,k<n→i≤n→Sq E n X→Full E n k X→(∀ a b,a<i→a<n→b<n→via E (k+1) a b→at2 X a b=true)→cost3 n k i<d→Ends E n (spec_l13Table.l3 d X (k:Int) (i:Int)))∧
 (∀ X k i j,k<n→i<n→j≤n→Sq E n X→Full E n k X→(∀ a b,a<i→a<n→b<n→via E (k+1) a b→at2 X a b=true)→(∀ b,b<j→b<n→via E (k+1) i b→at2 X i b=true)→cost4 n k i j<d→Ends E n (spec_l13Table.l4 d X (k:Int) (i:Int) (j:Int)))
 | 0=>⟨fun _ _ _ _ _ h=>by omega,fun _ _ _ _ _ _ _ _ h=>by omega,fun _ _ _ _ _ _ _ _ _ _ _ h=>by omega⟩
 | d+1=>by
  obtain ⟨ih2,ih3,ih4⟩:=table_all hn d;refine ⟨fun X k hk hS hF hd=>?_,fun X k i hk hi hS hF hA hd=>?_,fun X k i j hk hi hj hS hF hA hB hd=>?_⟩
  ·simp only [spec_l13Table.l2,hS.len]
   by_cases h:k<n
   ·rw [if_pos (by omega)];have:=cost2_step h;exact ih3 X k 0 h (Nat.zero_le _) hS hF (fun a b ha=>by omega) (by omega)
   ·rw [if_neg (by omega)];obtain rfl:k=n:=by omega
    exact ⟨X,rfl,hS,hF⟩
  ·simp only [spec_l13Table.l3,hS.len]
   by_cases h:i<n
   ·rw [if_pos (by omega)];have:=cost3_step (k:=k) h;exact ih4 X k i 0 hk h (Nat.zero_le _) hS hF hA (fun b hb=>by omega) (by omega)
   ·rw [if_neg (by omega),w64_succ (n:=n) hk (by omega)];have:=cost3_end (n:=n) (k:=k) (i:=i);exact ih2 X (k+1) (by omega) hS (fun a b ha hb hv=>hA a b (by omega) ha hb hv) (by omega)
  ·simp only [spec_l13Table.l4,hS.len]
   by_cases h:j<n
   ·have hri:=hS.row i hi;have hrk:=hS.row k hk;have:=cost4_step (k:=k) (i:=i) h;rw [if_pos (by omega),if_pos (by omega),if_pos (by omega),if_pos (by omega),rdL9,rdL9,hri,hrk,if_pos (by omega),rdB,rdB,w64_succ h (by omega),if_pos (show (k:Int)<(n:Int) by omega),if_pos (show 0≤(j:Int) by omega),if_pos (show (j:Int)<(n:Int) by omega),Int.toNat_natCast,Int.toNat_natCast]
    by_cases h1:(X.getD i []).getD k false=true
    ·rw [if_pos h1]
     by_cases h2:(X.getD k []).getD j false=true
     ·rw [if_pos h2];have hi':i<X.length:=by rw [hS.len];exact hi
      have hj':j<(X.getD i []).length:=by rw [hri];exact h
      rw [if_pos (by omega)];refine ih4 _ k i (j+1) hk hi (by omega) (hS.put hi h h1 h2) (hF.put hi' hj') (fun a b ha ha' hb hv=>?_) (fun b hb hb' hv=>?_) (by omega)
      ·rw [at2_set X i j a b hi' hj',hA a b ha ha' hb hv];rfl
      ·rw [at2_set X i j i b hi' hj']
       by_cases e:b=j
       ·simp [e]
       ·rw [hB b (by omega) hb' hv];rfl
     ·rw [if_neg h2];refine ih4 X k i (j+1) hk hi (by omega) hS hF hA (fun b hb hb' hv=>?_) (by omega)
      by_cases e:b=j
      ·subst e
       rcases hv with hv|hv
       ·exact hF i b hi hb' hv
       ·exact absurd (hF k b hk hb' hv.2) h2
      ·exact hB b (by omega) hb' hv
    ·rw [if_neg h1];refine ih4 X k i (j+1) hk hi (by omega) hS hF hA (fun b hb hb' hv=>?_) (by omega)
     by_cases e:b=j
     ·subst e
      rcases hv with hv|hv
      ·exact hF i b hi hb' hv
      ·exact absurd (hF i k hi hk hv.1) h1
     ·exact hB b (by omega) hb' hv
   ·rw [if_neg (by omega),w64_succ (n:=n) hi (by omega)];have:=cost4_end (n:=n) (k:=k) (i:=i) (j:=j);refine ih3 X k (i+1) hk (by omega) hS hF (fun a b ha ha' hb hv=>?_) (by omega)
    by_cases e:a=i
    ·subst e;exact hB b (by omega) hb hv
    ·exact hA a b (by omega) ha' hb hv
end table
end Go.Proofs.YtbahacapnaohcaaGreatDoor.PB
namespace Go.Proofs.YtbahacapnaohcaaGreatDoor.PB
open Go.RowKit Go.Proofs.YtbahacapnaohcaaGreatDoorW.PrintWords Go.Proofs.YtbahacapnaohcaaGreatDoorW.PrintLast Go.Proofs.YtbahacapnaohcaaGreatDoorW.PrintMore
theorem mem_compact {α:Type} [Inhabited α] [DecidableEq α] (x:α) (zs:List α):x∈Lib.compact zs↔x∈zs:=by
 unfold Lib.compact Lib.compactUpTo
 simp only [List.mem_map,List.mem_filter,List.mem_range];constructor
 ·rintro ⟨j,⟨hj,_⟩,rfl⟩;rw [getElem!_pos zs.toArray j (by simpa using hj)]
  simp
 ·intro h;obtain ⟨j,hj,e⟩:=List.getElem_of_mem h;have key:∀ (n j:Nat) (hj:j<zs.length),j≤n→zs[j]=x→∃ a,(a<zs.length∧Lib.keeps zs.toArray a=true)∧zs.toArray[a]! = x:=by
   intro n
   induction n with
   | zero=>
    intro j hj hn e;obtain rfl:j=0:=by omega
    exact ⟨0,⟨hj,by simp [Lib.keeps]⟩,by rw [getElem!_pos zs.toArray 0 (by simpa using hj)];simpa using e⟩
   | succ n ih=>
    intro j hj hn e
    by_cases hk:Lib.keeps zs.toArray j=true
    ·exact ⟨j,⟨hj,hk⟩,by rw [getElem!_pos zs.toArray j (by simpa using hj)];simpa using e⟩
    ·unfold Lib.keeps at hk
     simp only [decide_eq_true_eq,not_or,ne_eq,Decidable.not_not] at hk;obtain ⟨h0,h1⟩:=hk;have hj1:j - 1<zs.length:=by omega
     rw [getElem!_pos zs.toArray j (by simpa using hj),getElem!_pos zs.toArray (j - 1) (by simpa using hj1)] at h1;have h1':zs[j]=zs[j - 1]:=by simpa using h1
     exact ih (j - 1) hj1 (by omega) (by rw [← h1'];exact e)
  exact key j j hj (Nat.le_refl _) e
theorem back_raw (x:ByteArray):(⟨x.data.toList.toArray⟩:ByteArray)=x:=by cases x;simp
theorem mem_tidy (x:ByteArray) (xs:List ByteArray):x∈tidyB xs↔x∈xs:=by
 unfold tidyB backB sortB rawB
 simp only [List.mem_map,mem_compact,List.mem_mergeSort];constructor
 ·rintro ⟨l,⟨y,hy,rfl⟩,rfl⟩;rw [back_raw];exact hy
 ·intro h;exact ⟨_,⟨x,h,rfl⟩,back_raw x⟩
def Edge (l0:List S65) (i j:Nat):Prop:=∃ h:i<l0.length,∃ x,x∈l0[i].f2.f0∧isName x=true∧defIdx l0 x.f2=(j:Int)
theorem edge_lt {l0:List S65} {i j:Nat} (h:Edge l0 i j):j<l0.length:=by
 obtain ⟨_,x,_,_,e⟩:=h;have:=defIdx_rng l0 x.f2;omega
theorem edge_names {l0:List S65} {i j:Nat} (hi:i<l0.length):Edge l0 i j↔∃ nm,nm∈namesD l0[i]∧defIdx l0 nm=(j:Int):=by
 unfold namesD
 simp only [mem_tidy,namesRaw,List.mem_map,List.mem_filter];constructor
 ·rintro ⟨_,x,h1,h2,h3⟩;exact ⟨_,⟨x,⟨h1,h2⟩,rfl⟩,h3⟩
 ·rintro ⟨_,⟨x,⟨h1,h2⟩,rfl⟩,h3⟩;exact ⟨hi,x,h1,h2,h3⟩
structure Bfs (l0:List S65) (k:Nat) (out:List Bool) (todo:List Int) (f:Nat):Prop where
 len:out.length=l0.length
 todo_ok:∀ t,t∈todo→∃ m:Nat,t=(m:Int)∧m<l0.length∧(m=k∨out.getD m false=true)
 sound:∀ j,out.getD j false=true→Plus (Edge l0) k j
 fuel:falses out+todo.length≤f
def Shut (l0:List S65) (out:List Bool) (m:Nat):Prop:=∀ j,Edge l0 m j→out.getD j false=true
theorem getD_set (l:List Bool) (k j:Nat) (hk:k<l.length):(l.set k true).getD j false=(l.getD j false||decide (j=k)):=by
 rw [List.getD_eq_getElem?_getD,List.getElem?_set]
 by_cases e:k=j
 ·subst e;rw [if_pos rfl,if_pos hk];simp
 ·rw [if_neg e,← List.getD_eq_getElem?_getD];simp [show ¬ j=k from fun q=>e q.symm]
theorem falses_put (l:List Bool) (k:Nat) (h:l.getD k true=false):falses (l.set k true)+1=falses l:=by
 induction l generalizing k with
 | nil=>simp at h
 | cons a r ih=>
  cases k with
  | zero=>
   have:a=false:=by simpa using h
   subst this
   simp [falses,List.countP_cons]
  | succ k=>
   have:=ih k (by simpa using h)
   unfold falses at this ⊢
   simp only [List.set_cons_succ,List.countP_cons];omega
theorem getD_lt {l:List Bool} {k:Nat} (h:l.getD k true=false):k<l.length:=by
 refine Nat.lt_of_not_le fun hle=>?_
 rw [List.getD_eq_getElem?_getD,List.getElem?_eq_none hle] at h;cases h
theorem bfs_name {l0:List S65} {k t:Nat} {out:List Bool} {todo:List Int} {f:Nat} (h:Bfs l0 k out todo f) (ht:t=k∨out.getD t false=true) (nm:ByteArray) (he:∀ j:Nat,defIdx l0 nm=(j:Int)→Edge l0 t j) :
 Bfs l0 k (stepU l0 (out,todo) nm).1 (stepU l0 (out,todo) nm).2 f∧(∀ j,out.getD j false=true→(stepU l0 (out,todo) nm).1.getD j false=true)∧(∀ j:Nat,defIdx l0 nm=(j:Int)→(stepU l0 (out,todo) nm).1.getD j false=true)∧
  (∀ j:Nat,(stepU l0 (out,todo) nm).1.getD j false=true→out.getD j false=true∨(j:Int)∈(stepU l0 (out,todo) nm).2)∧(∀ x,x∈todo→x∈(stepU l0 (out,todo) nm).2):=by
 unfold stepU
 have hr:=defIdx_rng l0 nm
 by_cases hc:0≤defIdx l0 nm∧out.getD (defIdx l0 nm).toNat true=false
 ·rw [if_pos hc];obtain ⟨h0,h1⟩:=hc;obtain ⟨j,hj⟩:∃ j:Nat,defIdx l0 nm=(j:Int):=⟨(defIdx l0 nm).toNat,by omega⟩;rw [hj,Int.toNat_natCast] at h1 ⊢;have hl:=getD_lt h1;have hg:=fun i=>getD_set out j i hl
  refine ⟨⟨by simp [h.len],fun x hx=>?_,fun i hi=>?_,?_⟩,fun i hi=>?_,fun i hi=>?_,fun i hi=>?_,fun x hx=>by simp [hx]⟩
  ·rcases List.mem_append.1 hx with hx|hx
   ·obtain ⟨m,e,hm,ho⟩:=h.todo_ok x hx;refine ⟨m,e,hm,?_⟩
    rcases ho with ho|ho
    ·exact .inl ho
    ·exact .inr (by show (out.set j true).getD m false=true;rw [hg,ho];rfl)
   ·simp only [List.mem_singleton] at hx;exact ⟨j,hx,by rw [← h.len];exact hl,.inr (by show (out.set j true).getD j false=true;rw [hg];simp)⟩
  ·have hi':(out.set j true).getD i false=true:=hi;rw [hg] at hi'
   rcases Bool.or_eq_true_iff.1 hi' with q|q
   ·exact h.sound i q
   ·have:i=j:=by simpa using q
    subst this;have e:=he i hj
    rcases ht with rfl|ht
    ·exact .one e
    ·exact .more (h.sound t ht) e
  ·have:=falses_put out j h1;have:=h.fuel
   show falses (out.set j true)+(todo++[(j:Int)]).length≤f
   rw [List.length_append,List.length_singleton];omega
  ·show (out.set j true).getD i false=true
   rw [hg,hi];rfl
  ·obtain rfl:i=j:=by omega
   show (out.set i true).getD i false=true
   rw [hg];simp
  ·have hi':(out.set j true).getD i false=true:=hi;rw [hg] at hi'
   rcases Bool.or_eq_true_iff.1 hi' with q|q
   ·exact .inl q
   ·have:i=j:=by simpa using q
    subst this;exact .inr (by simp)
 ·rw [if_neg hc];refine ⟨h,fun i hi=>hi,fun i hi=>?_,fun i hi=>.inl hi,fun x hx=>hx⟩
  show out.getD i false=true
  have hlt:i<out.length:=by rw [h.len];omega
  rw [hi,Int.toNat_natCast] at hc;have h2:out.getD i true≠false:=fun e=>hc ⟨by omega,e⟩
  rw [List.getD_eq_getElem?_getD,List.getElem?_eq_getElem hlt] at h2 ⊢
  simpa using h2
theorem bfs_names {l0:List S65} {k t:Nat}:∀ (nms:List ByteArray) {out:List Bool} {todo:List Int} {f:Nat},Bfs l0 k out todo f→(t=k∨out.getD t false=true)→(∀ nm,nm∈nms→∀ j:Nat,defIdx l0 nm=(j:Int)→Edge l0 t j)→
 Bfs l0 k (nms.foldl (stepU l0) (out,todo)).1 (nms.foldl (stepU l0) (out,todo)).2 f∧(∀ j,out.getD j false=true→(nms.foldl (stepU l0) (out,todo)).1.getD j false=true)∧(∀ nm,nm∈nms→∀ j:Nat,defIdx l0 nm=(j:Int)→(nms.foldl (stepU l0) (out,todo)).1.getD j false=true)∧
  (∀ j:Nat,(nms.foldl (stepU l0) (out,todo)).1.getD j false=true→out.getD j false=true∨(j:Int)∈(nms.foldl (stepU l0) (out,todo)).2)∧(∀ x,x∈todo→x∈(nms.foldl (stepU l0) (out,todo)).2)
 | [],out,todo,f,h,_,_=>⟨h,fun _ h=>h,fun _ h=>by simp at h,fun _ h=>.inl h,fun _ h=>h⟩
 | nm :: nms,out,todo,f,h,ht,he=>by
  obtain ⟨a1,a2,a3,a4,a5⟩:=bfs_name h ht nm (he nm (by simp));have ht':t=k∨(stepU l0 (out,todo) nm).1.getD t false=true:=ht.imp id (a2 t);obtain ⟨b1,b2,b3,b4,b5⟩:=bfs_names nms a1 ht' (fun n hn=>he n (by simp [hn]));rw [List.foldl_cons];refine ⟨b1,fun j hj=>b2 j (a2 j hj),fun n hn j hj=>?_,fun j hj=>?_,fun x hx=>b5 x (a5 x hx)⟩
  ·rcases List.mem_cons.1 hn with rfl|hn
   ·exact b2 j (a3 j hj)
   ·exact b3 n hn j hj
  ·rcases b4 j hj with q|q
   ·rcases a4 j q with r|r
    ·exact .inl r
    ·exact .inr (b5 _ r)
   ·exact .inr q
theorem bfs_all {l0:List S65} {k:Nat}:∀ (f:Nat) (out:List Bool) (todo:List Int),Bfs l0 k out todo f→(∀ m,(m=k∨out.getD m false=true)→(m:Int)∈todo∨Shut l0 out m)→
 (usesF l0 f out todo).length=l0.length∧(∀ j,(usesF l0 f out todo).getD j false=true→Plus (Edge l0) k j)∧(∀ m,(m=k∨(usesF l0 f out todo).getD m false=true)→Shut l0 (usesF l0 f out todo) m)
 | 0,out,todo,h,hc=>by
  have hf:=h.fuel;have:todo=[]:=List.length_eq_zero_iff.1 (by omega);subst this
  unfold usesF
  exact ⟨h.len,h.sound,fun m hm=>(hc m hm).elim (fun q=>by cases q) id⟩
 | f+1,out,[],h,hc=>by
  unfold usesF
  exact ⟨h.len,h.sound,fun m hm=>(hc m hm).elim (fun q=>by cases q) id⟩
 | f+1,out,t :: r,h,hc=>by
  obtain ⟨m,rfl,hm,ho⟩:=h.todo_ok t (by simp)
  unfold usesF
  rw [rd65 hm];have h':Bfs l0 k out r f:=⟨h.len,fun x hx=>h.todo_ok x (by simp [hx]),h.sound,by have:=h.fuel;rw [List.length_cons] at this;omega⟩;obtain ⟨b1,b2,b3,b4,b5⟩:=bfs_names (namesD l0[m]) h' ho (fun nm hnm j hj=>(edge_names hm).2 ⟨nm,hnm,hj⟩);refine bfs_all f _ _ b1 (fun a ha=>?_);have hup:∀ a,Shut l0 out a→Shut l0 ((namesD l0[m]).foldl (stepU l0) (out,r)).1 a:=fun a hs j hj=>b2 j (hs j hj)
  have hmS:Shut l0 ((namesD l0[m]).foldl (stepU l0) (out,r)).1 m:=fun j hj=>by
   obtain ⟨nm,h1,h2⟩:=(edge_names hm).1 hj;exact b3 nm h1 j h2
  have old:(a=k∨out.getD a false=true)→(a:Int)∈((namesD l0[m]).foldl (stepU l0) (out,r)).2∨Shut l0 ((namesD l0[m]).foldl (stepU l0) (out,r)).1 a:=fun q=>by
   rcases hc a q with q|q
   ·rcases List.mem_cons.1 q with q|q
    ·obtain rfl:a=m:=by omega
     exact .inr hmS
    ·exact .inl (b5 _ q)
   ·exact .inr (hup a q)
  rcases ha with ha|ha
  ·exact old (.inl ha)
  ·rcases b4 a ha with q|q
   ·exact old (.inr q)
   ·exact .inl q
theorem uses_plus {l0:List S65} {k:Nat} (hk:k<l0.length) (j:Nat):(usesP l0 (k:Int)).getD j false=true↔Plus (Edge l0) k j:=by
 have hrep:∀ j,(List.replicate l0.length false).getD j false=false:=fun j=>by
  rw [List.getD_eq_getElem?_getD,List.getElem?_replicate];split <;> rfl
 have h0:Bfs l0 k (List.replicate l0.length false) [(k:Int)] (l0.length+1):=by
  refine ⟨by simp,fun t ht=>?_,fun j hj=>?_,?_⟩
  ·simp only [List.mem_singleton] at ht;exact ⟨k,ht,hk,.inl rfl⟩
  ·rw [hrep] at hj;cases hj
  ·have:=List.countP_le_length (p:=fun b=>!b) (l:=List.replicate l0.length false)
   unfold falses
   rw [List.length_replicate] at this;simp only [List.length_singleton];omega
 have:=bfs_all (l0.length+1) _ _ h0 (fun m hm=>by
  rcases hm with rfl|hm
  ·exact .inl (by simp)
  ·rw [hrep] at hm;cases hm)
 obtain ⟨h1,h2,h3⟩:=this;constructor
 ·exact h2 j
 ·intro hp
  show (usesF l0 (l0.length+1) (List.replicate l0.length false) [(k:Int)]).getD j false=true
  induction hp with
  | one e=>exact h3 k (.inl rfl) _ e
  | more _ e ih=>exact h3 _ (.inr ih) _ e
theorem loopB_iff (l0:List S65):loopB l0=true↔∃ i,i<l0.length∧Plus (Edge l0) i i:=by
 unfold loopB
 rw [List.any_eq_true];constructor
 ·rintro ⟨i,hi,h⟩;have hlt:i<l0.length:=by rw [List.mem_range'_1] at hi;omega
  exact ⟨i,hlt,(uses_plus hlt i).1 h⟩
 ·rintro ⟨i,hi,h⟩;exact ⟨i,by rw [List.mem_range'_1];omega,(uses_plus hi i).2 h⟩
end Go.Proofs.YtbahacapnaohcaaGreatDoor.PB
namespace Go.Proofs.YtbahacapnaohcaaGreatDoor.PB
open Go.RowKit Go.Proofs.YtbahacapnaohcaaGreatDoorW.PrintWords Go.Proofs.YtbahacapnaohcaaGreatDoorW.PrintLast Go.Proofs.YtbahacapnaohcaaGreatDoorW.PrintMore
def edgeX (l0:List S65) (j:Nat) (x:S102):Bool:=isName x&&decide (defIdx l0 x.f2=(j:Int))
def edgeB (l0:List S65) (i j:Nat):Bool:=(rd_T65 l0 (i:Int)).f2.f0.any (edgeX l0 j)
theorem edgeB_iff {l0:List S65} {i j:Nat} (hi:i<l0.length):edgeB l0 i j=true↔Edge l0 i j:=by
 unfold edgeB Edge
 rw [rd65 hi,List.any_eq_true];constructor
 ·rintro ⟨x,h1,h2⟩;simp only [edgeX,Bool.and_eq_true,decide_eq_true_eq] at h2;exact ⟨hi,x,h1,h2.1,h2.2⟩
 ·rintro ⟨_,x,h1,h2,h3⟩;exact ⟨x,h1,by simp [edgeX,h2,h3]⟩
theorem reaches_l0 (l0:List S65) (l1:List ByteArray) (l2:List S63) (h0:l0.length≤4611686018427387904) (i j:Nat) (hi:i<l0.length) (hl:l0[i].f2.f0.length≤4611686018427387904):∀ (n p d:Nat),l0[i].f2.f0.length - p=n→p≤l0[i].f2.f0.length→l0.length+2 * n+2<d→spec_l13Reaches.l0 d (i:Int) (j:Int) 1 (p:Int) l0 l1 l2=some ((l0[i].f2.f0.drop p).any (edgeX l0 j))
 | n,p,0,_,_,h=>by omega
 | n,p,1,_,_,h=>by omega
 | n,p,d+2,hn,hp,hd=>by
  rw [spec_l13Reaches.l0.eq_def];simp only [];rw [if_pos (by omega),if_pos (by omega),rd65 hi]
  by_cases hlt:p<l0[i].f2.f0.length
  ·have ih:=reaches_l0 l0 l1 l2 h0 i j hi hl (l0[i].f2.f0.length - (p+1)) (p+1) d rfl (by omega) (by omega);rw [if_pos (by omega),if_pos (by omega),rd102 hlt,List.drop_eq_getElem_cons hlt,List.any_cons];generalize (l0[i].f2.f0.drop (p+1)).any (edgeX l0 j)=r at *;generalize l0[i].f2.f0[p]=x at *;have key:∀ b:Bool,b=!isName x→spec_l13Reaches.j1 (d+1) (i:Int) (j:Int) 1 (p:Int) b l0 l1 l2 x.f0 x.f1 x.f2=some (edgeX l0 j x||r):=by
    intro b hb;simp only [spec_l13Reaches.j1];rw [w64_succ hlt (by omega),ih]
    unfold edgeX
    cases hx:isName x with
    | false=>rw [hx] at hb;subst hb;simp
    | true=>
     rw [hx] at hb;subst hb;simp only [Bool.not_true,Bool.false_eq_true,if_false];rw [def_f _ _ _ _ h0 d (by omega),Option.bind_some]
     by_cases hj:defIdx l0 x.f2=(j:Int)
     ·rw [if_pos hj];simp [hj]
     ·rw [if_neg hj];simp [hj]
   unfold isName at key
   by_cases h2:x.f0=2
   ·rw [if_pos h2];exact key _ (by simp [h2])
   ·rw [if_neg h2];exact key _ (by rw [Bool.eq_iff_iff];simp [h2])
  ·rw [if_neg (by omega),List.drop_of_length_le (by omega)];rfl
theorem reaches_f (l0:List S65) (l1:List ByteArray) (l2:List S63) (h0:l0.length≤4611686018427387904) (i j:Nat) (hi:i<l0.length) (hl:l0[i].f2.f0.length≤4611686018427387904) (d:Nat) (hd:l0.length+2 * l0[i].f2.f0.length+3<d):spec_l13Reaches.f d l0 l1 l2 (i:Int) (j:Int) 1=some (edgeB l0 i j):=by
 obtain ⟨d,rfl⟩:∃ m,d=m+1:=⟨d - 1,by omega⟩;simp only [spec_l13Reaches.f];have:=reaches_l0 l0 l1 l2 h0 i j hi hl l0[i].f2.f0.length 0 d (by omega) (by omega) (by omega);rw [show ((0:Nat):Int)=0 from rfl,List.drop_zero] at this;rw [this];unfold edgeB;rw [rd65 hi]
structure Rows0 (l0:List S65) (i:Nat) (X:List (List Bool)):Prop where
 len:X.length=i
 row:∀ a,a<i→(X.getD a []).length=l0.length
 cell:∀ a b,a<i→b<l0.length→at2 X a b=edgeB l0 a b
def costT (n i:Nat):Nat:=(n - i) * (n+2)+1+cost2 n 0
theorem costT_step {n i:Nat} (h:i<n):costT n (i+1)+(n+1)<costT n i:=by
 unfold costT
 have:(n - i) * (n+2)=(n - (i+1)) * (n+2)+(n+2):=by
  rw [show n - i=(n - (i+1))+1 by omega,Nat.succ_mul]
 rw [this];omega
theorem table_l01 {l0:List S65} {l1:List ByteArray} {l2:List S63} {B:Nat} (hn:l0.length≤1000) (hB:∀ x,x∈l0→x.f2.f0.length≤B) (hB2:B≤4611686018427387904):∀ d:Nat,
 (∀ X i,i≤l0.length→Rows0 l0 i X→costT l0.length i+(l0.length+2 * B+4)<d→Ends (Edge l0) l0.length (spec_l13Table.l0 d X (i:Int) l0 l1 l2))∧
 (∀ X i row j,i<l0.length→j≤l0.length→Rows0 l0 i X→row.length=l0.length→(∀ b,b<j→row.getD b false=edgeB l0 i b)→(l0.length - j)+1+costT l0.length (i+1)+(l0.length+2 * B+4)<d→Ends (Edge l0) l0.length (spec_l13Table.l1 d X (i:Int) row (j:Int) l0 l1 l2))
 | 0=>⟨fun _ _ _ _ h=>by omega,fun _ _ _ _ _ _ _ _ _ h=>by omega⟩
 | d+1=>by
  obtain ⟨ih0,ih1⟩:=table_l01 (l1:=l1) (l2:=l2) hn hB hB2 d;refine ⟨fun X i hi hX hd=>?_,fun X i row j hi hj hX hr hc hd=>?_⟩
  ·simp only [spec_l13Table.l0]
   by_cases h:i<l0.length
   ·rw [if_pos (by omega),if_pos (by omega),if_pos (by omega)];have:=costT_step h;exact ih1 X i _ 0 h (Nat.zero_le _) hX (by simp) (fun b hb=>by omega) (by omega)
   ·rw [if_neg (by omega)];obtain rfl:i=l0.length:=by omega
    have hout:∀ a b,¬ a<l0.length→at2 X a b=false:=fun a b ha=>by
     unfold at2
     have:X.getD a []=[]:=by rw [List.getD_eq_getElem?_getD,List.getElem?_eq_none (by rw [hX.len];omega)];rfl
     rw [this];rfl
    have hout2:∀ a b,a<l0.length→¬ b<l0.length→at2 X a b=false:=fun a b ha hb=>by
     unfold at2
     rw [List.getD_eq_getElem?_getD,List.getElem?_eq_none (by rw [hX.row a ha];omega)];rfl
    have hS:Sq (Edge l0) l0.length X:=⟨hX.len,hX.row,fun a b hab=>by
     by_cases ha:a<l0.length
     ·by_cases hb:b<l0.length
      ·rw [hX.cell a b ha hb] at hab;exact .one ((edgeB_iff ha).1 hab)
      ·rw [hout2 a b ha hb] at hab;cases hab
     ·rw [hout a b ha] at hab;cases hab⟩
    have hF:Full (Edge l0) l0.length 0 X:=fun a b ha hb hv=>by
     rw [hX.cell a b ha hb];exact (edgeB_iff ha).2 hv
    refine (table_all (E:=Edge l0) (n:=l0.length) (by omega) d).1 X 0 (Nat.zero_le _) hS hF ?_
    unfold costT at hd;omega
  ·simp only [spec_l13Table.l1]
   by_cases h:j<l0.length
   ·have hb:=hB l0[i] (List.getElem_mem hi);rw [if_pos (by omega),reaches_f l0 l1 l2 (by omega) i j hi (by omega) d (by omega),Option.bind_some,if_pos (by omega),if_pos (by omega),Int.toNat_natCast,w64_succ h (by omega)];refine ih1 X i _ (j+1) hi (by omega) hX (by rw [List.length_set];exact hr) (fun b hb'=>?_) (by omega);rw [List.getD_eq_getElem?_getD,List.getElem?_set]
    by_cases e:j=b
    ·subst e;rw [if_pos rfl,if_pos (by omega)];rfl
    ·rw [if_neg e,← List.getD_eq_getElem?_getD];exact hc b (by omega)
   ·rw [if_neg (by omega),hX.len,if_pos (by omega),w64_succ hi (by omega)];refine ih0 _ (i+1) (by omega) ⟨by rw [List.length_append,hX.len];rfl,fun a ha=>?_,fun a b ha hb'=>?_⟩ (by omega)
    ·by_cases e:a<i
     ·have:(X++[row]).getD a []=X.getD a []:=by
       rw [List.getD_eq_getElem?_getD,List.getD_eq_getElem?_getD,List.getElem?_append_left (by rw [hX.len];exact e)]
      rw [this];exact hX.row a e
     ·obtain rfl:a=i:=by omega
      have:(X++[row]).getD a []=row:=by
       rw [List.getD_eq_getElem?_getD,List.getElem?_append_right (by rw [hX.len];omega),hX.len];simp
      rw [this];exact hr
    ·by_cases e:a<i
     ·have:(X++[row]).getD a []=X.getD a []:=by
       rw [List.getD_eq_getElem?_getD,List.getD_eq_getElem?_getD,List.getElem?_append_left (by rw [hX.len];exact e)]
      unfold at2;rw [this];exact hX.cell a b e hb'
     ·obtain rfl:a=i:=by omega
      have:(X++[row]).getD a []=row:=by
       rw [List.getD_eq_getElem?_getD,List.getElem?_append_right (by rw [hX.len];omega),hX.len];simp
      unfold at2;rw [this];exact hc b (by omega)
theorem table_f {l0:List S65} {l1:List ByteArray} {l2:List S63} {B:Nat} (hn:l0.length≤12) (hB:∀ x,x∈l0→x.f2.f0.length≤B) (hB2:B≤4611686018427387904) (d:Nat) (hd:2 * B+5000<d):Ends (Edge l0) l0.length (spec_l13Table.f d l0 l1 l2):=by
 have hc:costT l0.length 0≤4000:=by
  unfold costT cost2
  rw [Nat.sub_zero];have h1:l0.length * (l0.length+2)≤12 * 14:=Nat.mul_le_mul hn (by omega);have h2:l0.length * (l0.length * (l0.length+2)+2)≤12 * (12 * 14+2):=Nat.mul_le_mul hn (by omega);omega
 exact (table_l01 (l1:=l1) (l2:=l2) (by omega) hB hB2 d).1 [] 0 (Nat.zero_le _) ⟨rfl,fun a ha=>by omega,fun a b ha=>by omega⟩ (by omega)
theorem code_l2 {l0:List S65} {l1:List ByteArray} {l2:List S63} {X:List (List Bool)} {n:Nat} (hn:n≤1000) (hS:Sq (Edge l0) n X):∀ (m i d:Nat),n - i=m→i≤n→m<d→spec_ProgCode.l2 d X (i:Int) l0 l1 l2=some (if (List.range' i (n - i)).any (fun a=>at2 X a a)=true then 10 else if l1.length=0∨l2.length=0 then 11 else 0)
 | m,i,0,_,_,h=>by omega
 | m,i,d+1,hm,hi,hd=>by
  simp only [spec_ProgCode.l2,hS.len]
  by_cases h:i<n
  ·rw [if_pos (by omega),if_pos (by omega),rdL9,hS.row i h,if_pos (by omega),rdB,w64_succ h (by omega),show n - i=(n - (i+1))+1 by omega,List.range'_succ,List.any_cons]
   by_cases ha:(X.getD i []).getD i false=true
   ·rw [if_pos ha,show at2 X i i=true from ha];rfl
   ·rw [if_neg ha,show at2 X i i=false from Bool.eq_false_iff.2 ha,Bool.false_or];exact code_l2 hn hS (n - (i+1)) (i+1) d rfl (by omega) (by omega)
  ·rw [if_neg (by omega),show n - i=0 by omega];simp only [List.range'_zero,List.any_nil,Bool.false_eq_true,if_false]
   by_cases h1:l1.length=0
   ·rw [if_pos (by omega),if_pos (.inl h1)]
   ·rw [if_neg (by omega)]
    by_cases h2:l2.length=0
    ·rw [if_pos (by omega),if_pos (.inr h2)]
    ·rw [if_neg (by omega),if_neg (by omega)]
def endP (l0:List S65) (l1:List ByteArray) (l2:List S63):Int:=if loopB l0=true then 10 else if l1.length=0∨l2.length=0 then 11 else 0
theorem code_j3 {M:Nat} {l0:List S65} {l1:List ByteArray} {l2:List S63} (H:CapP M l0 l1 l2) (c:Int) (hn:c=0→l0.length≤12) (d:Nat) (hd:2 * M+6000<d):spec_ProgCode.j3 d c l0 l1 l2=some (if c=0 then endP l0 l1 l2 else c):=by
 obtain ⟨d,rfl⟩:∃ m,d=m+1:=⟨d - 1,by omega⟩;have hM:=H.hM;simp only [spec_ProgCode.j3]
 by_cases h:c=0
 ·rw [if_pos h,if_pos h];obtain ⟨X,hX,hS,hF⟩:=table_f (l1:=l1) (l2:=l2) (hn h) H.bodn (by omega) d (by omega);rw [hX,Option.bind_some];have:=code_l2 (l1:=l1) (l2:=l2) (by have:=hn h;omega) hS l0.length 0 d rfl (by omega) (by have:=hn h;omega);rw [show ((0:Nat):Int)=0 from rfl] at this;rw [this]
  unfold endP
  have e:(List.range' 0 (l0.length - 0)).any (fun a=>at2 X a a)=loopB l0:=by
   rw [Bool.eq_iff_iff,loopB_iff,List.any_eq_true];constructor
   ·rintro ⟨i,hi,h⟩;exact ⟨i,by rw [List.mem_range'_1] at hi;omega,hS.sound i i h⟩
   ·rintro ⟨i,hi,h⟩;exact ⟨i,by rw [List.mem_range'_1];omega,hF i i hi hi (plus_via (fun a b he=>edge_lt he) h)⟩
  rw [e]
 ·rw [if_neg h,if_neg h]
theorem code_l1 {M:Nat} {l0:List S65} {l1:List ByteArray} {l2:List S63} (H:CapP M l0 l1 l2):∀ (n k d:Nat) (c:Int),(c=0→l0.length≤12)→l2.length - k=n→k≤l2.length→8 * M+6100+n<d→spec_ProgCode.l1 d c (k:Int) l0 l1 l2=some (if c≠0 then c else if firstCode (relCodeP l0 l1) (l2.drop k)≠0 then firstCode (relCodeP l0 l1) (l2.drop k) else endP l0 l1 l2)
 | n,k,0,_,_,_,_,h=>by omega
 | n,k,d+1,c,hc,hn,hk,hd=>by
  have hM:=H.hM;have hN:=H.n0;have hN1:=H.n1;have hN2:=H.n2;simp only [spec_ProgCode.l1]
  by_cases h:c=0
  ·subst h
   by_cases hlt:k<l2.length
   ·have hx:=List.getElem_mem hlt;have ha:=H.lefn _ hx;have hb:=H.rign _ hx;rw [if_pos (by omega),if_pos rfl,if_pos (by omega),rd63 hlt,relCode_f l0 l1 l2 _ (by omega) (by omega) (by omega) (by omega) d (by omega),Option.bind_some,w64_succ hlt (by omega),code_l1 H (l2.length - (k+1)) (k+1) d _ (fun _=>hc rfl) rfl (by omega) (by omega),List.drop_eq_getElem_cons hlt];have e:∀ r,firstCode (relCodeP l0 l1) (l2[k] :: r)=if relCodeP l0 l1 l2[k]≠0 then relCodeP l0 l1 l2[k] else firstCode (relCodeP l0 l1) r:=fun _=>rfl
    rw [e]
    by_cases h0:relCodeP l0 l1 l2[k]=0 <;> simp [h0]
   ·rw [if_neg (by omega),code_j3 H 0 hc d (by omega),List.drop_of_length_le (by omega)];simp [firstCode]
  ·rw [if_neg h];simp only [ite_self];rw [code_j3 H c hc d (by omega),if_neg h,if_pos h]
theorem code_l0 {M:Nat} {l0:List S65} {l1:List ByteArray} {l2:List S63} (H:CapP M l0 l1 l2):∀ (n k d:Nat) (c:Int),(c=0→l0.length≤12)→l0.length - k=n→k≤l0.length→9 * M+6200+n<d→spec_ProgCode.l0 d c (k:Int) l0 l1 l2=some (if c≠0 then c else if firstCode (defCodeP l0) (l0.drop k)≠0 then firstCode (defCodeP l0) (l0.drop k) else if firstCode (relCodeP l0 l1) l2≠0 then firstCode (relCodeP l0 l1) l2 else endP l0 l1 l2)
 | n,k,0,_,_,_,_,h=>by omega
 | n,k,d+1,c,hc,hn,hk,hd=>by
  have hM:=H.hM;have hN:=H.n0;have hN1:=H.n1;have hN2:=H.n2;simp only [spec_ProgCode.l0];have hj:∀ c:Int,(c=0→l0.length≤12)→spec_ProgCode.j1 d c l0 l1 l2=some (if c≠0 then c else if firstCode (relCodeP l0 l1) l2≠0 then firstCode (relCodeP l0 l1) l2 else endP l0 l1 l2):=fun c hc=>by
   obtain ⟨d,rfl⟩:∃ m,d=m+1:=⟨d - 1,by omega⟩;simp only [spec_ProgCode.j1];have:=code_l1 H l2.length 0 d c hc rfl (by omega) (by omega);rw [show ((0:Nat):Int)=0 from rfl,List.drop_zero] at this;exact this
  by_cases h:c=0
  ·subst h
   by_cases hlt:k<l0.length
   ·have hx:=List.getElem_mem hlt;have ha:=H.parn _ hx;have hb:=H.bodn _ hx;rw [if_pos (by omega),if_pos rfl,if_pos (by omega),rd65 hlt,defCode_f l0 l1 l2 _ (by omega) (by omega) (by omega) d (by omega),Option.bind_some,w64_succ hlt (by omega),code_l0 H (l0.length - (k+1)) (k+1) d _ (fun _=>hc rfl) rfl (by omega) (by omega),List.drop_eq_getElem_cons hlt];have e:∀ r,firstCode (defCodeP l0) (l0[k] :: r)=if defCodeP l0 l0[k]≠0 then defCodeP l0 l0[k] else firstCode (defCodeP l0) r:=fun _=>rfl
    rw [e]
    by_cases h0:defCodeP l0 l0[k]=0 <;> simp [h0]
   ·rw [if_neg (by omega),hj 0 hc,List.drop_of_length_le (by omega)];simp [firstCode]
  ·rw [if_neg h];simp only [ite_self];rw [hj c hc,if_pos h,if_pos h]
theorem progCode_f {M:Nat} {l0:List S65} {l1:List ByteArray} {l2:List S63} (H:CapP M l0 l1 l2) (d:Nat) (hd:10 * M+6300<d):spec_ProgCode.f d l0 l1 l2=some (progCodeP l0 l1 l2):=by
 have hN:=H.n0
 unfold spec_ProgCode.f
 rw [shape_f H d (by omega),Option.bind_some];have hc:(if formedB l0 l1 l2=true then shapeP l0 l1 l2 else 4)=0→l0.length≤12:=fun h=>by
  cases hf:formedB l0 l1 l2 with
  | false=>rw [hf] at h;simp at h
  | true=>
   rw [hf] at h;simp only [if_true] at h
   unfold shapeP at h
   cases hm:manyB l0 l1 l2 with
   | true=>rw [hm] at h;simp at h
   | false=>
    unfold manyB at hm
    simp only [Bool.or_eq_false_iff,decide_eq_false_iff_not] at hm;omega
 have:=code_l0 H l0.length 0 d _ hc rfl (by omega) (by omega);rw [show ((0:Nat):Int)=0 from rfl,List.drop_zero] at this;rw [this]
 congr 1
 unfold progCodeP shapeP endP
 cases hf:formedB l0 l1 l2 with
 | false=>simp
 | true=>
  cases hm:manyB l0 l1 l2 with
  | true=>simp
  | false=>
   cases ha:againB l0 l1 with
   | true=>simp
   | false=>simp
end Go.Proofs.YtbahacapnaohcaaGreatDoor.PB
