import Derived.Test.YtbahacapnaohcaaGreatDoorA17
set_option linter.unusedVariables false
set_option linter.unusedSimpArgs false
namespace Go.Proofs.YtbahacapnaohcaaGreatDoor.PB
open Go.RowKit Go.Proofs.YtbahacapnaohcaaGreatDoorW.PrintWords Go.Proofs.YtbahacapnaohcaaGreatDoorW.PrintLast Go.Proofs.YtbahacapnaohcaaGreatDoorW.PrintMore
structure KT (α:Type) where
 d:Kd α
 T:World→List Nat→α→List Value→Prop
 frame:∀ {w w':World} {F x cs},(∀ k,k∈F→w'.heap[k]?=w.heap[k]?)→T w F x cs→T w' F x cs
 lt:∀ {w F x cs},T w F x cs→∀ k,k∈F→k<w.heap.size
 read:∀ {w F x cs},T w F x cs→d.K w x cs
namespace KT
variable {α:Type} {t:KT α} {w w':World}
def L (t:KT α) (w:World):List α→List Nat→List Value→Prop
 | [],F,_=>F=[]
 | x :: xs,F,cs=>∃ F1 F2 c r,F=F1++F2∧cs=c++r∧t.T w F1 x c∧L t w xs F2 r
theorem L_frame:∀ {xs:List α} {F:List Nat} {cs:List Value},(∀ k,k∈F→w'.heap[k]?=w.heap[k]?)→t.L w xs F cs→t.L w' xs F cs
 | [],F,cs,_,h=>h
 | x :: xs,F,cs,hk,⟨F1,F2,c,r,e1,e2,h1,h2⟩=>⟨F1,F2,c,r,e1,e2,t.frame (fun k h=>hk k (by rw [e1];exact List.mem_append_left _ h)) h1,L_frame (fun k h=>hk k (by rw [e1];exact List.mem_append_right _ h)) h2⟩
theorem L_lt:∀ {xs:List α} {F:List Nat} {cs:List Value},t.L w xs F cs→∀ k,k∈F→k<w.heap.size
 | [],F,cs,h=>fun k hk=>by rw [show F=[] from h] at hk;cases hk
 | x :: xs,F,cs,⟨F1,F2,c,r,e1,e2,h1,h2⟩=>fun k hk=>by
  rw [e1] at hk
  rcases List.mem_append.1 hk with h|h
  ·exact t.lt h1 k h
  ·exact L_lt h2 k h
theorem T_len {F x cs} (h:t.T w F x cs):cs.length=t.d.sz:=t.d.K_len (t.read h)
theorem L_get:∀ {xs:List α} {F:List Nat} {cs:List Value} {j:Nat} {x:α},t.L w xs F cs→xs[j]?=some x→
 ∃ F1 Fj F2 pre c post,F=F1++Fj++F2∧cs=pre++c++post∧pre.length=j * t.d.sz∧t.T w Fj x c∧
  (∀ w' x' c' Fj',(∀ k,k∈F1++F2→w'.heap[k]?=w.heap[k]?)→t.T w' Fj' x' c'→t.L w' (xs.set j x') (F1++Fj'++F2) (pre++c'++post))
 | [],F,cs,j,x,_,h=>by simp at h
 | y :: xs,F,cs,0,x,⟨F1,F2,c,r,e1,e2,h1,h2⟩,h=>by
  have:y=x:=by simpa using h
  subst this;refine ⟨[],F1,F2,[],c,r,by simpa using e1,by simpa using e2,by simp,h1,fun w' x' c' Fj' hk hT=>?_⟩;exact ⟨Fj',F2,c',r,by simp,by simp,hT,L_frame (fun k h=>hk k (by simpa using h)) h2⟩
 | y :: xs,F,cs,j+1,x,⟨F1,F2,c,r,e1,e2,h1,h2⟩,h=>by
  obtain ⟨G1,Gj,G2,pre,cj,post,g1,g2,g3,g4,g5⟩:=L_get h2 (by simpa using h);refine ⟨F1++G1,Gj,G2,c++pre,cj,post,by rw [e1,g1];simp,by rw [e2,g2];simp,?_,g4,fun w' x' c' Fj' hk hT=>?_⟩
  ·rw [List.length_append,g3,T_len h1,Nat.succ_mul,Nat.add_comm]
  ·refine ⟨F1,G1++Fj'++G2,c,pre++c'++post,by simp,by simp,t.frame (fun k h=>hk k (by simp [h])) h1,?_⟩;refine g5 w' x' c' Fj' (fun k h=>hk k ?_) hT
   rcases List.mem_append.1 h with h|h <;> simp [h]
def Row (t:KT α) (e:TypeId) (w:World) (F:List Nat) (v:Value) (xs:List α):Prop:=
 ∃ A c,v=.slice A xs.length c∧xs.length≤c∧c≤9223372036854775807∧
  ((xs=[]∧F=[]∧(A=none∨∃ b o,A=some ⟨b,o,none⟩))∨∃ g cur F',A=some ⟨g,0,none⟩∧F=g :: F'∧w.heap[g]?=some (.cells cur e (0,0))∧t.L w xs F' cur.toList)
theorem Row_frame {e F v} {xs:List α} (hk:∀ k,k∈F→w'.heap[k]?=w.heap[k]?) (h:t.Row e w F v xs):t.Row e w' F v xs:=by
 obtain ⟨A,c,h1,h2,h3,h4⟩:=h;refine ⟨A,c,h1,h2,h3,?_⟩
 rcases h4 with h4|⟨g,cur,F',e1,e2,hb,hL⟩
 ·exact .inl h4
 ·exact .inr ⟨g,cur,F',e1,e2,(hk g (by simp [e2])).trans hb,L_frame (fun k h=>hk k (by simp [e2,h])) hL⟩
theorem Row_lt {e F v} {xs:List α} (h:t.Row e w F v xs):∀ k,k∈F→k<w.heap.size:=by
 obtain ⟨A,c,h1,h2,h3,h4⟩:=h;intro k hk
 rcases h4 with ⟨_,rfl,_⟩|⟨g,cur,F',e1,rfl,hb,hL⟩
 ·cases hk
 ·rcases List.mem_cons.1 hk with rfl|h
  ·exact (Array.getElem?_eq_some_iff.1 hb).1
  ·exact L_lt hL k h
theorem Row_read {e F v} {xs:List α} (h:t.Row e w F v xs):∃ A c,v=.slice A xs.length c∧xs.length≤c∧t.d.C w A xs.length xs:=by
 obtain ⟨A,c,h1,h2,h3,h4⟩:=h;refine ⟨A,c,h1,h2,rfl,by omega,fun h0=>?_⟩
 rcases h4 with ⟨rfl,_,_⟩|⟨g,cur,F',rfl,e2,hb,hL⟩
 ·simp at h0
 ·refine ⟨_,rfl,fun j p hj=>?_⟩;obtain ⟨F1,Fj,F2,pre,cj,post,g1,g2,g3,g4,_⟩:=L_get hL hj;refine ⟨cj,T_len g4,t.read g4,fun i u hi=>?_⟩;rw [add_at,cell_of_row w g _ cur e (0,0) hb,← Array.getElem?_toList,g2];have hlt:i<cj.length:=(List.getElem?_eq_some_iff.1 hi).1;rw [Nat.zero_add,← g3,List.append_assoc,List.getElem?_append_right (by omega),Nat.add_sub_cancel_left,List.getElem?_append_left hlt];exact hi
def leaf (d:Kd α) (enc:α→List Value) (h:∀ w x,d.K w x (enc x)):KT α where
 d:=d
 T:=fun w F x cs=>F=[]∧cs=enc x
 frame:=fun _ h=>h
 lt:=fun h k hk=>by rw [h.1] at hk;cases hk
 read:=fun h'=>by rw [h'.2];exact h _ _
theorem leaf_L {d:Kd α} {enc:α→List Value} {h:∀ w x,d.K w x (enc x)}:∀ {xs:List α} {cs:List Value},(∀ j p,xs[j]?=some p→(cs.drop (j * d.sz)).take d.sz=enc p)→(leaf d enc h).L w xs [] cs
 | [],cs,_=>rfl
 | x :: xs,cs,hc=>by
  have h0:=hc 0 x rfl;rw [Nat.zero_mul,List.drop_zero] at h0;refine ⟨[],[],enc x,cs.drop d.sz,rfl,?_,⟨rfl,rfl⟩,leaf_L (fun j p hj=>?_)⟩
  ·rw [← h0,List.take_append_drop]
  ·have:=hc (j+1) p (by simpa using hj);rw [List.drop_drop,Nat.add_comm,← Nat.succ_mul];exact this
theorem leaf_of_R {d:Kd α} {enc:α→List Value} {h:∀ w x,d.K w x (enc x)} {e:Nat} {base:Nat} {ok:Nat→Prop} {v:Value} {xs:List α} (hM:∀ ok x c,d.M w base ok x c→c=enc x) (hR:d.R e w base ok v xs) :
 ∃ F,(leaf d enc h).Row e w F v xs∧F.Nodup∧∀ k,k∈F→base≤k:=by
 obtain ⟨_,inner,ho,hr⟩:=hR
 rcases ho.2 with ⟨rfl,h0⟩|⟨g,cap,cur,rfl,hb,hg,hn,hm,hs,ht⟩
 ·obtain rfl:xs=[]:=List.length_eq_zero_iff.1 h0;exact ⟨[],⟨none,0,rfl,by simp,by omega,.inl ⟨rfl,rfl,.inl rfl⟩⟩,List.nodup_nil,by simp⟩
 ·refine ⟨[g],⟨_,cap,rfl,hn,by unfold maxLen at hm;omega,.inr ⟨g,cur,[],rfl,rfl,hg,leaf_L (fun j p hj=>?_)⟩⟩,by simp,by simpa using hb⟩;have h1:=hM _ _ _ (hr.2 j p hj);rw [← h1,← ht];have hlt:=(List.getElem?_eq_some_iff.1 hj).1;have:j * d.sz+d.sz≤xs.length * d.sz:=by rw [← Nat.succ_mul];exact Nat.mul_le_mul_right _ hlt
  rw [List.drop_take,List.take_take,Nat.min_eq_left (by omega)]
theorem leaf_F {d:Kd α} {enc:α→List Value} {h:∀ w x,d.K w x (enc x)}:∀ {xs:List α} {F cs},(leaf d enc h).L w xs F cs→F=[]
 | [],F,cs,hh=>hh
 | x :: xs,F,cs,⟨F1,F2,c,r,e1,e2,h1,h2⟩=>by rw [e1,h1.1,leaf_F h2];rfl
theorem L_prefix:∀ {xs:List α} {F:List Nat} {cs cs':List Value},t.L w xs F cs→cs'.take (xs.length * t.d.sz)=cs.take (xs.length * t.d.sz)→t.L w xs F cs'
 | [],F,cs,cs',h,_=>h
 | x :: xs,F,cs,cs',⟨F1,F2,c,r,e1,e2,h1,h2⟩,he=>by
  have hl:=T_len h1;have e3:(x :: xs).length * t.d.sz=t.d.sz+xs.length * t.d.sz:=by rw [List.length_cons,Nat.succ_mul,Nat.add_comm]
  rw [e3,e2,List.take_add,List.take_add] at he;have hc:(c++r).take t.d.sz=c:=by rw [← hl,List.take_left]
  have hd:(c++r).drop t.d.sz=r:=by rw [← hl,List.drop_left]
  rw [hc,hd] at he;have hlen:(cs'.take t.d.sz).length=c.length∨cs'.length<t.d.sz:=by rw [List.length_take];omega
  rcases hlen with hlen|hlen
  ·have:=List.append_inj he hlen;exact ⟨F1,F2,c,cs'.drop t.d.sz,e1,by rw [← this.1,List.take_append_drop],h1,L_prefix h2 this.2⟩
  ·exfalso
   have h4:=congrArg List.length he;rw [List.take_of_length_le (by omega),List.drop_of_length_le (by omega),List.take_nil,List.append_nil,List.length_append,hl] at h4;omega
theorem L_cells:∀ {xs:List α} {F:List Nat} {cs:List Value},t.L w xs F cs→xs.length * t.d.sz≤cs.length
 | [],F,cs,_=>by simp
 | x :: xs,F,cs,⟨F1,F2,c,r,e1,e2,h1,h2⟩=>by
  have:=L_cells h2;rw [e2,List.length_append,T_len h1,List.length_cons,Nat.succ_mul];omega
theorem L_one:∀ {xs:List α} {F:List Nat} {cs:List Value},t.L w xs F cs→∀ u,u∈cs.take (xs.length * t.d.sz)→u.oneCell'=true
 | [],F,cs,_,u,hu=>by simp at hu
 | x :: xs,F,cs,⟨F1,F2,c,r,e1,e2,h1,h2⟩,u,hu=>by
  have e3:(x :: xs).length * t.d.sz=c.length+xs.length * t.d.sz:=by rw [List.length_cons,Nat.succ_mul,T_len h1,Nat.add_comm]
  rw [e2,e3,List.take_length_add_append] at hu
  rcases List.mem_append.1 hu with hu|hu
  ·exact t.d.K_one (t.read h1) u hu
  ·exact L_one h2 u hu
def NewRow (base:Nat) (F F':List Nat):Prop:=F'=[]∨∃ g g' R,F=g :: R∧F'=g' :: R∧base≤g'
theorem clone_row (t:KT α) (e:TypeId) (kc bytes:Nat) (hb1:bytes≤64)
 (CL:∀ (b off n c:Nat) (news:List Value) (w:World),news.length=n * t.d.sz→n≤maxLen→n * bytes≤140737488355328→(∀ j u,news[j]?=some u→w.cell? ⟨b,off+j,none⟩=some u)→(∀ u∈news,u.oneCell'=true)→
  Calls Tryz.prog kc #[.slice (some ⟨b,off,none⟩) n c] w fun e' w'=>∃ v',e'=.returned v'∧w'.ownsRow w.heap.size e t.d.sz v' n news∧v'≠.slice none 0 0∧Below w.heap.size w w')
 (CN:∀ (n c:Nat) (w:World),Calls Tryz.prog kc #[.slice none n c] w fun e' w'=>e'=.returned (.slice none 0 0)∧w'=w)
 {F:List Nat} {v:Value} {xs:List α} (h:t.Row e w F v xs) (hn:xs.length<1099511627776) :
 Calls Tryz.prog kc #[v] w fun e' w'=>∃ A c F',e'=.returned (.slice A xs.length c)∧xs.length≤c∧c≤9223372036854775807∧t.Row e w' F' (.slice A xs.length xs.length) xs∧NewRow w.heap.size F F'∧Below w.heap.size w w':=by
 obtain ⟨A,c,rfl,h2,h3,h4⟩:=h;have hbig:xs.length * bytes≤140737488355328:=Nat.le_trans (Nat.mul_le_mul (Nat.le_of_lt hn) hb1) (by omega);have hmax:xs.length≤maxLen:=by unfold maxLen;omega
 rcases h4 with ⟨rfl,rfl,hA⟩|⟨g,cur,F',rfl,rfl,hb,hL⟩
 ·rcases hA with rfl|⟨b,o,rfl⟩
  ·refine (CN 0 c w).mono ?_;rintro e' w' ⟨rfl,rfl⟩;exact ⟨none,0,[],rfl,by simp,by omega,⟨none,0,rfl,by simp,by omega,.inl ⟨rfl,rfl,.inl rfl⟩⟩,.inl rfl,Below.refl _ _⟩
  ·refine (CL b o 0 c [] w (by simp) (by unfold maxLen;omega) (by omega) (by simp) (by simp)).mono ?_;rintro e' w' ⟨v',rfl,ho,hne,hb⟩
   rcases ho.2 with ⟨e0,_⟩|⟨g,cap,cur,rfl,_,_,_,hm,_,_⟩
   ·exact absurd e0 hne
   ·exact ⟨_,cap,[],rfl,by simp,by unfold maxLen at hm;omega,⟨_,0,rfl,by simp,by omega,.inl ⟨rfl,rfl,.inr ⟨_,_,rfl⟩⟩⟩,.inl rfl,hb⟩
 ·have hcl:=L_cells hL;refine (CL g 0 xs.length c (cur.toList.take (xs.length * t.d.sz)) w (by rw [List.length_take];omega) hmax hbig ?_ (L_one hL)).mono ?_
  ·intro j u hj;rw [List.getElem?_take] at hj
   split at hj
   ·rw [cell_of_row w g _ cur e (0,0) hb,← Array.getElem?_toList,Nat.zero_add];exact hj
   ·cases hj
  ·rintro e' w' ⟨v',rfl,ho,hne,hbw⟩
   rcases ho.2 with ⟨e0,_⟩|⟨g',cap,cur',rfl,hbase,hg',hnc,hm,hs,ht⟩
   ·exact absurd e0 hne
   ·refine ⟨_,cap,g' :: F',rfl,hnc,by unfold maxLen at hm;omega,⟨_,xs.length,rfl,Nat.le_refl _,by omega,.inr ⟨g',cur',F',rfl,rfl,hg',?_⟩⟩,.inr ⟨g,g',F',rfl,rfl,hbase⟩,hbw⟩;exact L_prefix (L_frame (fun k hk=>hbw.block k (L_lt hL k hk)) hL) ht
end KT
def tS:KT ByteArray:=KT.leaf Kd.string (fun x=>[.string x]) (fun _ _=>rfl)
def encN (x:S102):List Value:=[.int .i64 x.f0,.int .i64 x.f1,.string x.f2]
theorem k102_enc (w:World) (x:S102):k102.K w x (encN x):=⟨_,_,rfl,rfl,⟨_,_,rfl,rfl,rfl⟩⟩
def tN:KT S102:=KT.leaf k102 encN k102_enc
theorem k65_close {w:World} {x:S65} {A1 c1 A2 c2} (h1:x.f1.length≤c1) (g1:Kd.string.C w A1 x.f1.length x.f1) (h2:x.f2.f0.length≤c2) (g2:k102.C w A2 x.f2.f0.length x.f2.f0) :
 k65.K w x [.string x.f0,.slice A1 x.f1.length c1,.slice A2 x.f2.f0.length c2]:=
 ⟨_,_,rfl,rfl,⟨_,_,rfl,⟨A1,c1,rfl,h1,g1⟩,⟨A2,c2,rfl,h2,g2⟩⟩⟩
theorem k63_close {w:World} {x:S63} {A1 c1 A2 c2} (h1:x.f1.f0.length≤c1) (g1:k102.C w A1 x.f1.f0.length x.f1.f0) (h2:x.f2.f0.length≤c2) (g2:k102.C w A2 x.f2.f0.length x.f2.f0) :
 k63.K w x [.int .i64 x.f0,.slice A1 x.f1.f0.length c1,.slice A2 x.f2.f0.length c2]:=
 ⟨_,_,rfl,rfl,⟨_,_,rfl,⟨A1,c1,rfl,h1,g1⟩,⟨A2,c2,rfl,h2,g2⟩⟩⟩
def t65:KT S65 where
 d:=k65
 T:=fun w F x cs=>∃ F1 F2 v1 v2,F=F1++F2∧cs=[.string x.f0,v1,v2]∧tS.Row 9 w F1 v1 x.f1∧tN.Row 102 w F2 v2 x.f2.f0
 frame:=fun hk ⟨F1,F2,v1,v2,e1,e2,h1,h2⟩=>⟨F1,F2,v1,v2,e1,e2,KT.Row_frame (fun k h=>hk k (by simp [e1,h])) h1,KT.Row_frame (fun k h=>hk k (by simp [e1,h])) h2⟩
 lt:=fun ⟨F1,F2,v1,v2,e1,e2,h1,h2⟩ k hk=>by
  rw [e1] at hk
  rcases List.mem_append.1 hk with h|h
  ·exact KT.Row_lt h1 k h
  ·exact KT.Row_lt h2 k h
 read:=fun ⟨F1,F2,v1,v2,e1,e2,h1,h2⟩=>by
  obtain ⟨A1,c1,rfl,a1,b1⟩:=KT.Row_read h1;obtain ⟨A2,c2,rfl,a2,b2⟩:=KT.Row_read h2;rw [e2];exact k65_close a1 b1 a2 b2
def t63:KT S63 where
 d:=k63
 T:=fun w F x cs=>∃ F1 F2 v1 v2,F=F1++F2∧cs=[.int .i64 x.f0,v1,v2]∧tN.Row 102 w F1 v1 x.f1.f0∧tN.Row 102 w F2 v2 x.f2.f0
 frame:=fun hk ⟨F1,F2,v1,v2,e1,e2,h1,h2⟩=>⟨F1,F2,v1,v2,e1,e2,KT.Row_frame (fun k h=>hk k (by simp [e1,h])) h1,KT.Row_frame (fun k h=>hk k (by simp [e1,h])) h2⟩
 lt:=fun ⟨F1,F2,v1,v2,e1,e2,h1,h2⟩ k hk=>by
  rw [e1] at hk
  rcases List.mem_append.1 hk with h|h
  ·exact KT.Row_lt h1 k h
  ·exact KT.Row_lt h2 k h
 read:=fun ⟨F1,F2,v1,v2,e1,e2,h1,h2⟩=>by
  obtain ⟨A1,c1,rfl,a1,b1⟩:=KT.Row_read h1;obtain ⟨A2,c2,rfl,a2,b2⟩:=KT.Row_read h2;rw [e2];exact k63_close a1 b1 a2 b2
def PT (w:World) (F:List Nat) (v:Value) (l0:List S65) (l1:List ByteArray) (l2:List S63):Prop:=
 ∃ F0 F1 F2 v0 v1 v2,F=F0++F1++F2∧v=.agg #[v0,v1,v2]∧t65.Row 65 w F0 v0 l0∧tS.Row 9 w F1 v1 l1∧t63.Row 63 w F2 v2 l2
theorem PT.frame {w w':World} {F v l0 l1 l2} (hk:∀ k,k∈F→w'.heap[k]?=w.heap[k]?) (h:PT w F v l0 l1 l2):PT w' F v l0 l1 l2:=by
 obtain ⟨F0,F1,F2,v0,v1,v2,e1,e2,h0,h1,h2⟩:=h;exact ⟨F0,F1,F2,v0,v1,v2,e1,e2,KT.Row_frame (fun k h=>hk k (by simp [e1,h])) h0,KT.Row_frame (fun k h=>hk k (by simp [e1,h])) h1,KT.Row_frame (fun k h=>hk k (by simp [e1,h])) h2⟩
theorem PT.lt {w:World} {F v l0 l1 l2} (h:PT w F v l0 l1 l2):∀ k,k∈F→k<w.heap.size:=by
 obtain ⟨F0,F1,F2,v0,v1,v2,e1,e2,h0,h1,h2⟩:=h;intro k hk;rw [e1] at hk
 rcases List.mem_append.1 hk with h|h
 ·rcases List.mem_append.1 h with h|h
  ·exact KT.Row_lt h0 k h
  ·exact KT.Row_lt h1 k h
 ·exact KT.Row_lt h2 k h
theorem PT.below {w w':World} {F v l0 l1 l2} (h:PT w F v l0 l1 l2) (hb:Below w.heap.size w w'):PT w' F v l0 l1 l2:=h.frame (fun k hk=>hb.block k (h.lt k hk))
theorem PT.read {w:World} {F v l0 l1 l2} (h:PT w F v l0 l1 l2):∃ A0 c0 A1 c1 A2 c2,v=.agg #[.slice A0 l0.length c0,.slice A1 l1.length c1,.slice A2 l2.length c2]∧PRd w A0 c0 l0 A1 c1 l1 A2 c2 l2:=by
 obtain ⟨F0,F1,F2,v0,v1,v2,e1,e2,h0,h1,h2⟩:=h;obtain ⟨A0,c0,rfl,a0,b0⟩:=KT.Row_read h0;obtain ⟨A1,c1,rfl,a1,b1⟩:=KT.Row_read h1;obtain ⟨A2,c2,rfl,a2,b2⟩:=KT.Row_read h2;exact ⟨A0,c0,A1,c1,A2,c2,e2,b0,a0,b1,a1,b2,a2⟩
end Go.Proofs.YtbahacapnaohcaaGreatDoor.PB
namespace Go.Proofs.YtbahacapnaohcaaGreatDoor.PB
open Go.RowKit Go.Proofs.YtbahacapnaohcaaGreatDoorW.PrintWords Go.Proofs.YtbahacapnaohcaaGreatDoorW.PrintLast Go.Proofs.YtbahacapnaohcaaGreatDoorW.PrintMore Go.Shelf
theorem clipcD (A:Option Addr) (n c:Nat) (hn:n≤c) (h63:c≤9223372036854775807) (w:World):Calls Tryz.prog 253 #[.slice A n c] w fun e w'=>e=.returned (.slice A n n)∧w'=w:=by
 go_enter Tryz.func253,Tryz.ntmps253;go_wp2_with (omega);go_ret;exact ⟨by simp,rfl⟩
theorem cloneD_calls {w:World} {F:List Nat} {v:Value} {xs:List S65} (h:t65.Row 65 w F v xs) (hn:xs.length<1099511627776) :
 Calls Tryz.prog 152 #[v] w fun e' w'=>∃ A F',e'=.returned (.slice A xs.length xs.length)∧t65.Row 65 w' F' (.slice A xs.length xs.length) xs∧KT.NewRow w.heap.size F F'∧Below w.heap.size w w':=by
 obtain ⟨i0,hi0⟩:∃ i0,Tryz.prog.info? 65=some i0:=by
  have:=info65
  cases h:Tryz.prog.info? 65 with
  | none=>rw [h] at this;cases this
  | some i=>exact ⟨i,rfl⟩
 have hi:=info65;rw [hi0] at hi;simp only [Option.map_some,Option.some.injEq,Prod.mk.injEq] at hi;have z23:∀ w,(Go.sizeOf 65).run Tryz.prog w=.ok t65.d.sz w:=fun w=>by simp [Go.sizeOf,typeInfo,hi0,hi.2.1];rfl
 have C:=am (KT.clone_row t65 65 254 64 (by omega) (fun b off n c news w h1 h2 h3 h4 h5=>AnyE.slices_Clone Tryz.cloneD i0 _ t65.d.sz 64 hi0 hi.1 (hi.2.1.trans rfl) hi.2.2 rfl (by decide) z23 b off n c news w h1 h2 h3 h4 h5) (fun n c w=>AnyE.slices_Clone_nil Tryz.cloneD n c w) h hn);clear h hi z23;go_enter Tryz.func152,Tryz.ntmps152;go_wp2_with fail;refine C.out.mono ?_;rintro e' w1 ⟨A,c,F',rfl,hnc,hc63,hr,hw,hb⟩;have HR:=am hr;have HW:=am hw;have HB:=am hb;clear hr hw hb;go_wp2_with fail;refine (clipcD A xs.length c hnc hc63 _).mono ?_;rintro e' w2 ⟨rfl,rfl⟩;go_wp2_with fail;go_ret;exact ⟨_,_,rfl,HR.out,HW.out,HB.out⟩
theorem clipcS (A:Option Addr) (n c:Nat) (hn:n≤c) (h63:c≤9223372036854775807) (w:World):Calls Tryz.prog 95 #[.slice A n c] w fun e w'=>e=.returned (.slice A n n)∧w'=w:=by
 go_enter Tryz.func95,Tryz.ntmps95;go_wp2_with (omega);go_ret;exact ⟨by simp,rfl⟩
theorem cloneS_calls {w:World} {F:List Nat} {v:Value} {xs:List ByteArray} (h:tS.Row 9 w F v xs) (hn:xs.length<1099511627776) :
 Calls Tryz.prog 153 #[v] w fun e' w'=>∃ A F',e'=.returned (.slice A xs.length xs.length)∧tS.Row 9 w' F' (.slice A xs.length xs.length) xs∧KT.NewRow w.heap.size F F'∧Below w.heap.size w w':=by
 obtain ⟨i0,hi0⟩:∃ i0,Tryz.prog.info? 9=some i0:=by
  have:=info9
  cases h:Tryz.prog.info? 9 with
  | none=>rw [h] at this;cases this
  | some i=>exact ⟨i,rfl⟩
 have hi:=info9;rw [hi0] at hi;simp only [Option.map_some,Option.some.injEq,Prod.mk.injEq] at hi;have z23:∀ w,(Go.sizeOf 9).run Tryz.prog w=.ok tS.d.sz w:=fun w=>by simp [Go.sizeOf,typeInfo,hi0,hi.2.1];rfl
 have C:=am (KT.clone_row tS 9 255 16 (by omega) (fun b off n c news w h1 h2 h3 h4 h5=>AnyE.slices_Clone Tryz.cloneS i0 _ tS.d.sz 16 hi0 hi.1 (hi.2.1.trans rfl) hi.2.2 rfl (by decide) z23 b off n c news w h1 h2 h3 h4 h5) (fun n c w=>AnyE.slices_Clone_nil Tryz.cloneS n c w) h hn);clear h hi z23;go_enter Tryz.func153,Tryz.ntmps153;go_wp2_with fail;refine C.out.mono ?_;rintro e' w1 ⟨A,c,F',rfl,hnc,hc63,hr,hw,hb⟩;have HR:=am hr;have HW:=am hw;have HB:=am hb;clear hr hw hb;go_wp2_with fail;refine (clipcS A xs.length c hnc hc63 _).mono ?_;rintro e' w2 ⟨rfl,rfl⟩;go_wp2_with fail;go_ret;exact ⟨_,_,rfl,HR.out,HW.out,HB.out⟩
theorem clipcR (A:Option Addr) (n c:Nat) (hn:n≤c) (h63:c≤9223372036854775807) (w:World):Calls Tryz.prog 256 #[.slice A n c] w fun e w'=>e=.returned (.slice A n n)∧w'=w:=by
 go_enter Tryz.func256,Tryz.ntmps256;go_wp2_with (omega);go_ret;exact ⟨by simp,rfl⟩
theorem cloneR_calls {w:World} {F:List Nat} {v:Value} {xs:List S63} (h:t63.Row 63 w F v xs) (hn:xs.length<1099511627776) :
 Calls Tryz.prog 154 #[v] w fun e' w'=>∃ A F',e'=.returned (.slice A xs.length xs.length)∧t63.Row 63 w' F' (.slice A xs.length xs.length) xs∧KT.NewRow w.heap.size F F'∧Below w.heap.size w w':=by
 obtain ⟨i0,hi0⟩:∃ i0,Tryz.prog.info? 63=some i0:=by
  have:=info63
  cases h:Tryz.prog.info? 63 with
  | none=>rw [h] at this;cases this
  | some i=>exact ⟨i,rfl⟩
 have hi:=info63;rw [hi0] at hi;simp only [Option.map_some,Option.some.injEq,Prod.mk.injEq] at hi;have z23:∀ w,(Go.sizeOf 63).run Tryz.prog w=.ok t63.d.sz w:=fun w=>by simp [Go.sizeOf,typeInfo,hi0,hi.2.1];rfl
 have C:=am (KT.clone_row t63 63 257 56 (by omega) (fun b off n c news w h1 h2 h3 h4 h5=>AnyE.slices_Clone Tryz.cloneR i0 _ t63.d.sz 56 hi0 hi.1 (hi.2.1.trans rfl) hi.2.2 rfl (by decide) z23 b off n c news w h1 h2 h3 h4 h5) (fun n c w=>AnyE.slices_Clone_nil Tryz.cloneR n c w) h hn);clear h hi z23;go_enter Tryz.func154,Tryz.ntmps154;go_wp2_with fail;refine C.out.mono ?_;rintro e' w1 ⟨A,c,F',rfl,hnc,hc63,hr,hw,hb⟩;have HR:=am hr;have HW:=am hw;have HB:=am hb;clear hr hw hb;go_wp2_with fail;refine (clipcR A xs.length c hnc hc63 _).mono ?_;rintro e' w2 ⟨rfl,rfl⟩;go_wp2_with fail;go_ret;exact ⟨_,_,rfl,HR.out,HW.out,HB.out⟩
theorem clipcN (A:Option Addr) (n c:Nat) (hn:n≤c) (h63:c≤9223372036854775807) (w:World):Calls Tryz.prog 277 #[.slice A n c] w fun e w'=>e=.returned (.slice A n n)∧w'=w:=by
 go_enter Tryz.func277,Tryz.ntmps277;go_wp2_with (omega);go_ret;exact ⟨by simp,rfl⟩
theorem cloneN_calls {w:World} {F:List Nat} {v:Value} {xs:List S102} (h:tN.Row 102 w F v xs) (hn:xs.length<1099511627776) :
 Calls Tryz.prog 183 #[v] w fun e' w'=>∃ A F',e'=.returned (.slice A xs.length xs.length)∧tN.Row 102 w' F' (.slice A xs.length xs.length) xs∧KT.NewRow w.heap.size F F'∧Below w.heap.size w w':=by
 obtain ⟨i0,hi0⟩:∃ i0,Tryz.prog.info? 102=some i0:=by
  have:=info102
  cases h:Tryz.prog.info? 102 with
  | none=>rw [h] at this;cases this
  | some i=>exact ⟨i,rfl⟩
 have hi:=info102;rw [hi0] at hi;simp only [Option.map_some,Option.some.injEq,Prod.mk.injEq] at hi;have z23:∀ w,(Go.sizeOf 102).run Tryz.prog w=.ok tN.d.sz w:=fun w=>by simp [Go.sizeOf,typeInfo,hi0,hi.2.1];rfl
 have C:=am (KT.clone_row tN 102 278 32 (by omega) (fun b off n c news w h1 h2 h3 h4 h5=>AnyE.slices_Clone Tryz.cloneN i0 _ tN.d.sz 32 hi0 hi.1 (hi.2.1.trans rfl) hi.2.2 rfl (by decide) z23 b off n c news w h1 h2 h3 h4 h5) (fun n c w=>AnyE.slices_Clone_nil Tryz.cloneN n c w) h hn);clear h hi z23;go_enter Tryz.func183,Tryz.ntmps183;go_wp2_with fail;refine C.out.mono ?_;rintro e' w1 ⟨A,c,F',rfl,hnc,hc63,hr,hw,hb⟩;have HR:=am hr;have HW:=am hw;have HB:=am hb;clear hr hw hb;go_wp2_with fail;refine (clipcN A xs.length c hnc hc63 _).mono ?_;rintro e' w2 ⟨rfl,rfl⟩;go_wp2_with fail;go_ret;exact ⟨_,_,rfl,HR.out,HW.out,HB.out⟩
end Go.Proofs.YtbahacapnaohcaaGreatDoor.PB
