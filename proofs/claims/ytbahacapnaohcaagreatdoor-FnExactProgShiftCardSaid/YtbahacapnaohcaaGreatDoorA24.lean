import Derived.Test.YtbahacapnaohcaaGreatDoorV
import Derived.Test.YtbahacapnaohcaaGreatDoorA13
set_option linter.unusedVariables false
set_option linter.unusedSimpArgs false
namespace Go.Proofs.YtbahacapnaohcaaGreatDoor.PB
open Go.RowKit Go.Proofs.YtbahacapnaohcaaGreatDoorW.PrintWords Go.Proofs.YtbahacapnaohcaaGreatDoorW.PrintLast Go.Proofs.YtbahacapnaohcaaGreatDoorW.PrintMore
theorem nums_one (a:Int):(strOfNums [a]).size=1:=by unfold strOfNums;rfl
theorem markText_l0:∀ (d:Nat) (x:Int) (out:ByteArray),0≤x→x<10 ^ d→x≤9223372036854775807→out.size+d≤1000→∃ r,laws_markText.l0 (d+1) x out=some r
 | 0,x,out,h0,h1,h2,hs=>by
  have:x=0:=by simp at h1;omega
  subst this
  unfold laws_markText.l0
  rw [if_neg (by omega),if_pos (by omega)];exact ⟨_,rfl⟩
 | d+1,x,out,h0,h1,h2,hs=>by
  unfold laws_markText.l0
  by_cases hx:x > 0
  ·have hq:x.tdiv 10=x / 10:=Int.tdiv_eq_ediv_of_nonneg h0;have hw:wrap64 (x.tdiv 10)=x / 10:=by rw [hq];unfold wrap64;omega
   have hp:(10:Int) ^ (d+1)=10 ^ d * 10:=Int.pow_succ ..;rw [if_pos hx,Option.bind_some,nums_one,if_pos (by omega),hw];refine markText_l0 d (x / 10) _ (by omega) (by rw [hp] at h1;exact Int.ediv_lt_of_lt_mul (by omega) h1) (by omega) ?_;rw [ByteArray.size_append,nums_one];omega
  ·rw [if_neg hx,if_pos (by omega)];exact ⟨_,rfl⟩
theorem markText_some (x:Int) (h0:0≤x) (h1:x≤9223372036854775807):∃ r,laws_markText.f 21 x=some r:=by
 unfold laws_markText.f
 by_cases hx:x≤0
 ·rw [if_pos hx];exact ⟨_,rfl⟩
 ·rw [if_neg hx];exact markText_l0 20 x _ h0 (by omega) h1 (by simp [ByteArray.size])
def markT (x:Int):ByteArray:=(laws_markText.f 21 x).getD ⟨#[]⟩
theorem markT_eq (x:Int) (h0:0≤x) (h1:x≤9223372036854775807):laws_markText.f 21 x=some (markT x):=by
 obtain ⟨r,hr⟩:=markText_some x h0 h1
 unfold markT;rw [hr];rfl
theorem markText_calls (x:Int) (h0:0≤x) (h1:x≤9223372036854775807) (w:World) :
 Calls Tryz.prog 209 #[.int .i64 x] w fun e w'=>e=.returned (.string (markT x))∧Below w.heap.size w w':=laws_markText.calls 21 x _ w (markT_eq x h0 h1)
def markS:List ByteArray→Int→List ByteArray
 | [],_=>[]
 | _ :: r,k=>markT k :: markS r (k+1)
def markN:List S102→Int→List S102
 | [],_=>[]
 | _ :: r,k=>⟨k,k+1,markT (k+2)⟩ :: markN r (k+3)
theorem markS_length:∀ (l:List ByteArray) (k:Int),(markS l k).length=l.length
 | [],_=>rfl
 | _ :: r,k=>by simp [markS,markS_length r]
theorem markN_length:∀ (l:List S102) (k:Int),(markN l k).length=l.length
 | [],_=>rfl
 | _ :: r,k=>by simp [markN,markN_length r]
theorem KT.row_open {α:Type} {t:KT α} {e:TypeId} {w:World} {F:List Nat} {v:Value} {xs:List α} {j:Nat} {x:α} (h:t.Row e w F v xs) (hj:xs[j]?=some x) :
 ∃ g cur F1 Fj F2 pre c post cc,v=.slice (some ⟨g,0,none⟩) xs.length cc∧xs.length≤cc∧F=g :: (F1++Fj++F2)∧w.heap[g]?=some (.cells cur e (0,0))∧cur.toList=pre++c++post∧pre.length=j * t.d.sz∧t.T w Fj x c∧
  (∀ w' cur' x' c' Fj',(∀ k,k∈F1++F2→w'.heap[k]?=w.heap[k]?)→w'.heap[g]?=some (.cells cur' e (0,0))→cur'.toList=pre++c'++post→t.T w' Fj' x' c'→t.Row e w' (g :: (F1++Fj'++F2)) v (xs.set j x')):=by
 obtain ⟨A,cc,rfl,h2,h3,h4⟩:=h
 rcases h4 with ⟨rfl,_,_⟩|⟨g,cur,F',rfl,rfl,hb,hL⟩
 ·simp at hj
 ·obtain ⟨F1,Fj,F2,pre,c,post,g1,g2,g3,g4,g5⟩:=KT.L_get hL hj;refine ⟨g,cur,F1,Fj,F2,pre,c,post,cc,rfl,h2,by rw [g1],hb,g2,g3,g4,fun w' cur' x' c' Fj' hk hg hc hT=>?_⟩;exact ⟨_,cc,by rw [List.length_set],by rw [List.length_set];exact h2,h3,.inr ⟨g,cur',_,rfl,rfl,hg,by rw [hc];exact g5 w' x' c' Fj' hk hT⟩⟩
structure But (F:List Nat) (w w':World):Prop where
 os:w'.os=w.os
 tape:w'.tape=w.tape
 output:w'.output=w.output
 size:w.heap.size≤w'.heap.size
 block:∀ q,q<w.heap.size→q∉F→w'.heap[q]?=w.heap[q]?
theorem But.refl (F:List Nat) (w:World):But F w w:=⟨rfl,rfl,rfl,Nat.le_refl _,fun _ _ _=>rfl⟩
theorem But.trans {F:List Nat} {a b c:World} (h:But F a b) (k:But F b c):But F a c:=
 ⟨k.os.trans h.os,k.tape.trans h.tape,k.output.trans h.output,Nat.le_trans h.size k.size,fun q h1 h2=>(k.block q (Nat.lt_of_lt_of_le h1 h.size) h2).trans (h.block q h1 h2)⟩
theorem But.of_below {F:List Nat} {a b:World} (h:Below a.heap.size a b):But F a b:=⟨h.os,h.tape,h.output,h.size,fun q h1 _=>h.block q h1⟩
theorem But.set {F:List Nat} {a b:World} (h:But F a b) {g j:Nat} (hg:g∈F) (u:Value):But F a (b.setCell ⟨g,j,none⟩ u):=
 h.trans ⟨rfl,rfl,rfl,by simp [World.setCell],fun q _ h2=>Below.heap_setCell _ _ _ _ (fun e=>h2 (e ▸ hg))⟩
theorem But.mono {F G:List Nat} {a b:World} (h:But F a b) (hs:∀ q,q∈F→q∈G):But G a b:=⟨h.os,h.tape,h.output,h.size,fun q h1 h2=>h.block q h1 (fun hf=>h2 (hs q hf))⟩
theorem But.below {F:List Nat} {B:Nat} {w0 a b:World} (h:But F a b) (hb:Below B w0 a) (hB:B≤a.heap.size) (hF:∀ q,q∈F→B≤q):Below B w0 b:=
 hb.trans ⟨h.os,h.tape,h.output,h.size,fun q hq=>h.block q (by omega) (fun hf=>by have:=hF q hf;omega)⟩
theorem PT.but {w w':World} {F G v l0 l1 l2} (h:PT w F v l0 l1 l2) (hb:But G w w') (hd:∀ q,q∈F→q∉G):PT w' F v l0 l1 l2:=h.frame (fun k hk=>hb.block k (h.lt k hk) (hd k hk))
theorem KT.leaf_one {α:Type} {d:Kd α} {enc:α→List Value} {h:∀ w x,d.K w x (enc x)} {e:TypeId} {w:World} {F R:List Nat} {g:Nat} {v:Value} {xs:List α} (hr:(KT.leaf d enc h).Row e w F v xs) (hF:F=g :: R):R=[]:=by
 obtain ⟨A,c,_,_,_,h4⟩:=hr
 rcases h4 with ⟨_,e1,_⟩|⟨g2,cur,F',_,e1,hb,hL⟩
 ·rw [e1] at hF;cases hF
 ·rw [e1] at hF;injection hF with _ h2
  rw [← h2];exact KT.leaf_F hL
theorem markS_step (xs:List ByteArray) (k:Int) (j:Nat) (h:j<xs.length):((markS xs k).take j++xs.drop j).set j (markT (k+j))=(markS xs k).take (j+1)++xs.drop (j+1):=by
 induction xs generalizing k j with
 | nil=>simp at h
 | cons x r ih=>
  cases j with
  | zero=>simp [markS]
  | succ j=>
   have:=ih (k+1) j (by simpa using h);simp only [markS,List.take_succ_cons,List.drop_succ_cons,List.cons_append,List.set_cons_succ];rw [← this]
   congr 3
   push_cast
   omega
set_option maxHeartbeats 4000000 in
set_option maxRecDepth 100000 in
theorem markStringS_calls {F:List Nat} {v:Value} {xs:List ByteArray} (k:Int) (w:World) (h:tS.Row 9 w F v xs) (hk0:0≤k) (hk:k+xs.length≤4611686018427387904) :
 Calls Tryz.prog 107 #[v,.int .i64 k] w fun e w'=>e=.returned (.int .i64 (k+xs.length))∧tS.Row 9 w' F v (markS xs k)∧But F w w':=by
 obtain ⟨A,c,e1,hc,hcm⟩:∃ A c,v=.slice A xs.length c∧xs.length≤c∧c≤9223372036854775807:=by obtain ⟨A,c,h1,h2,h3,_⟩:=h;exact ⟨A,c,h1,h2,h3⟩
 subst e1;have HR:=am h;clear h;go_enter Tryz.func107,Tryz.ntmps107;go_wp2
 go_loopw [1,5] (fun kv i wr=>∃ (j:Nat),j≤xs.length∧i=.int .i64 j∧kv=.int .i64 (k+j)∧Aside0 (tS.Row 9 wr F (.slice A xs.length c) ((markS xs k).take j++xs.drop j))∧Aside0 (But F w wr)) (fun _ i _=>xs.length - (intOf i).toNat)
 case atStart=>exact ⟨0,Nat.zero_le _,rfl,by simp,⟨by simpa using HR.out⟩,⟨But.refl _ _⟩⟩
 case round=>
  clear HR;obtain ⟨j,hj,rfl,rfl,HR,HB⟩:=hrel
  by_cases hlt:j<xs.length
  ·have HST:=am (markS_step xs k j hlt);have hml:(markS xs k).length=xs.length:=markS_length xs k;have hxj:((markS xs k).take j++xs.drop j)[j]?=some xs[j]:=by
    rw [List.getElem?_append_right (by rw [List.length_take];omega),List.length_take,List.getElem?_drop,Nat.min_eq_left (by omega),Nat.sub_self,Nat.add_zero,List.getElem?_eq_getElem hlt]
   obtain ⟨g,cur,F1,Fj,F2,pre,cc,post,c2,e1,_,hF,hg,hcur,hpre,hT,hput⟩:=KT.row_open HR.out hxj;injection e1 with e1 e2 e3
   subst e1;clear e2;subst e3;obtain ⟨hFj,hcc⟩:=hT;subst hFj;subst hcc;have hcj:cur[j]?=some (.string xs[j]):=by
    have hp:pre.length=j:=by rw [hpre];exact Nat.mul_one j
    rw [← Array.getElem?_toList,hcur,List.append_assoc,List.getElem?_append_right (by omega),hp,Nat.sub_self];rfl
   have hx0:wr.cell? ⟨g,j,none⟩=some (.string xs[j]):=(blk_cell hg j).trans hcj;have HF:=am hF;have HNIL:=am (KT.leaf_one HR.out hF);have HCUR:=am hcur;have HPUT:=am hput;have HPRE:Aside0 (pre.length=j):=⟨by rw [hpre];exact Nat.mul_one j⟩;have HLT:=am (KT.Row_lt HR.out);clear hxj hcur hpre hput hF hml hcj;have C:=am (markText_calls (k+j) (by omega) (by omega) wr);have hw1:wrap64 (k+j+1)=k+((j+1:Nat):Int):=by unfold wrap64;omega
   go_wp2_with (omega);refine C.out.mono ?_;rintro e w1 ⟨rfl,hb⟩;have hg1:w1.heap[g]?=some (.cells cur 9 (0,0)):=(hb.block _ (Array.getElem?_eq_some_iff.1 hg).1).trans hg;have hx1:=pb hb hx0;have hf1:=blk_frozen hg1 j;have HR2:Aside0 (tS.Row 9 (w1.setCell ⟨g,j,none⟩ (.string (markT (k+j)))) F (.slice (some ⟨g,0,none⟩) xs.length c) ((markS xs k).take (j+1)++xs.drop (j+1))):=⟨by
    have hlt2:=HLT.out;rw [HF.out] at hlt2 ⊢;rw [← HST.out];refine HPUT.out _ _ (markT (k+j)) [.string (markT (k+j))] [] (fun q hq=>?_) (blk_set hg1 j _) ?_ ⟨rfl,rfl⟩
    ·have hn:=HNIL.out;rw [List.append_nil] at hn;rw [hn] at hq;cases hq
    ·rw [Array.toList_setIfInBounds,HCUR.out,List.append_assoc,List.set_append_right _ _ (by rw [HPRE.out];omega),HPRE.out,Nat.sub_self]
     simp⟩
   have HB2:Aside0 (But F w (w1.setCell ⟨g,j,none⟩ (.string (markT (k+j))))):=⟨(HB.out.trans (But.of_below hb)).set (by rw [HF.out];simp) _⟩;clear hb hx0 hg HR HB C HST HPUT HCUR HPRE HLT HF;go_wp2_with (omega)
   go_roundw
   case rel=>exact ⟨j+1,by omega,by go_num,by first|rfl|(congr 1;omega)|(simp;omega),HR2,HB2⟩
   case measure=>simp [intOf];omega
  ·have e1:j=xs.length:=by omega
   subst e1;go_wp2_with (omega);go_ret;exact ⟨rfl,by have h:=HR.out;rw [List.drop_of_length_le (Nat.le_refl _),List.append_nil,List.take_of_length_le (by rw [markS_length];omega)] at h;exact h,HB.out⟩
theorem markN_step (xs:List S102) (k:Int) (j:Nat) (h:j<xs.length):((markN xs k).take j++xs.drop j).set j ⟨k+3 * j,k+3 * j+1,markT (k+3 * j+2)⟩=(markN xs k).take (j+1)++xs.drop (j+1):=by
 induction xs generalizing k j with
 | nil=>simp at h
 | cons x r ih=>
  cases j with
  | zero=>simp [markN]
  | succ j=>
   have:=ih (k+3) j (by simpa using h);simp only [markN,List.take_succ_cons,List.drop_succ_cons,List.cons_append,List.set_cons_succ];rw [← this,show k+3 * ((j+1:Nat):Int)=k+3+3 * (j:Int) by omega]
theorem set_three (cp r:List Value) (a b c a' b' c':Value) (n:Nat) (hn:cp.length=n):(((cp++([a,b,c]++r)).set n a').set (n+1) b').set (n+2) c'=cp++([a',b',c']++r):=by
 subst hn;rw [List.set_append_right _ _ (by omega),List.set_append_right _ _ (by omega),List.set_append_right _ _ (by omega)]
 simp
set_option maxHeartbeats 4000000 in
set_option maxRecDepth 100000 in
theorem markTermNodeS_calls {F:List Nat} {v:Value} {xs:List S102} (k:Int) (w:World) (h:tN.Row 102 w F v xs) (hk0:0≤k) (hk:k+3 * xs.length≤4611686018427387904) :
 Calls Tryz.prog 210 #[v,.int .i64 k] w fun e w'=>e=.returned (.int .i64 (k+3 * xs.length))∧tN.Row 102 w' F v (markN xs k)∧But F w w':=by
 obtain ⟨A,c,e1,hc,hcm⟩:∃ A c,v=.slice A xs.length c∧xs.length≤c∧c≤9223372036854775807:=by obtain ⟨A,c,h1,h2,h3,_⟩:=h;exact ⟨A,c,h1,h2,h3⟩
 subst e1;have HR:=am h;clear h;have hu102:=Tryz.underlying102;go_enter Tryz.func210,Tryz.ntmps210;go_wp2
 go_loopw [1,5] (fun kv i wr=>∃ (j:Nat),j≤xs.length∧i=.int .i64 j∧kv=.int .i64 (k+3 * j)∧Aside0 (tN.Row 102 wr F (.slice A xs.length c) ((markN xs k).take j++xs.drop j))∧Aside0 (But F w wr)) (fun _ i _=>xs.length - (intOf i).toNat)
 case atStart=>exact ⟨0,Nat.zero_le _,rfl,by simp,⟨by simpa using HR.out⟩,⟨But.refl _ _⟩⟩
 case round=>
  clear HR;obtain ⟨j,hj,rfl,rfl,HR,HB⟩:=hrel
  by_cases hlt:j<xs.length
  ·have HST:=am (markN_step xs k j hlt);have hml:(markN xs k).length=xs.length:=markN_length xs k;have hxj:((markN xs k).take j++xs.drop j)[j]?=some xs[j]:=by
    rw [List.getElem?_append_right (by rw [List.length_take];omega),List.length_take,List.getElem?_drop,Nat.min_eq_left (by omega),Nat.sub_self,Nat.add_zero,List.getElem?_eq_getElem hlt]
   obtain ⟨g,cur,F1,Fj,F2,pre,cc,post,c2,e1,_,hF,hg,hcur,hpre,hT,hput⟩:=KT.row_open HR.out hxj;injection e1 with e1 e2 e3
   subst e1;clear e2;subst e3;obtain ⟨hFj,hcc⟩:=hT;subst hFj;subst hcc;have hp:pre.length=j * 3:=hpre;have hget:∀ i u,(encN xs[j])[i]?=some u→cur[j * 3+i]?=some u:=fun i u hi=>by
    have hi3:i<(encN xs[j]).length:=(List.getElem?_eq_some_iff.1 hi).1;rw [← Array.getElem?_toList,hcur,List.append_assoc,← hp,List.getElem?_append_right (by omega),Nat.add_sub_cancel_left,List.getElem?_append_left hi3];exact hi
   have hc0:=hget 0 _ rfl;have hc1:=hget 1 _ rfl;have hc2:=hget 2 _ rfl;have HF:=am hF;have HNIL:=am (KT.leaf_one HR.out hF);have HCUR:=am hcur;have HPUT:=am hput;have HPRE:=am hp;clear hxj hcur hpre hput hF hml hget hp;have q1:k+3 * (j:Int)+1≤4611686018427387904:=by omega
   have q2:wrap64 (k+3 * (j:Int)+1)=k+3 * (j:Int)+1:=by unfold wrap64;omega
   have q3:wrap64 (k+3 * (j:Int)+1+1)=k+3 * (j:Int)+2:=by unfold wrap64;omega
   have q4:wrap64 (k+3 * (j:Int)+2+1)=k+3 * ((j+1:Nat):Int):=by unfold wrap64;omega
   have hx0:wr.cell? ⟨g,j * 3,none⟩=some (.int .i64 xs[j].f0):=(blk_cell hg _).trans hc0;have hx1:wr.cell? ⟨g,j * 3+1,none⟩=some (.int .i64 xs[j].f1):=(blk_cell hg _).trans hc1;have hy0:=blk_frozen hg (j * 3);have hy1:=blk_frozen hg (j * 3+1);go_wp2_with (omega);obtain ⟨w2,hw2⟩:∃ w2,w2=(wr.setCell ⟨g,j * 3,none⟩ (.int .i64 (k+3 * (j:Int)))).setCell ⟨g,j * 3+1,none⟩ (.int .i64 (k+3 * (j:Int)+1)):=⟨_,rfl⟩;have hg2:w2.heap[g]?=some (.cells ((cur.setIfInBounds (j * 3) (.int .i64 (k+3 * (j:Int)))).setIfInBounds (j * 3+1) (.int .i64 (k+3 * (j:Int)+1))) 102 (0,0)):=by rw [hw2];exact blk_set (blk_set hg _ _) _ _
   have HBu:But F w w2:=by rw [hw2];exact (HB.out.set (by rw [HF.out];simp) _).set (by rw [HF.out];simp) _
   rw [← hw2];clear hw2;refine (markText_calls (k+3 * (j:Int)+1+1) (by omega) (by omega) w2).mono ?_;rintro e w3 ⟨rfl,hb⟩;have hg3:=(hb.block _ (Array.getElem?_eq_some_iff.1 hg2).1).trans hg2;have hx3:w3.cell? ⟨g,j * 3+2,none⟩=some (.string xs[j].f2):=(blk_cell hg3 _).trans (by rw [Array.getElem?_setIfInBounds_ne (by omega),Array.getElem?_setIfInBounds_ne (by omega)];exact hc2);have hy3:=blk_frozen hg3 (j * 3+2);have HR2:Aside0 (tN.Row 102 (w3.setCell ⟨g,j * 3+2,none⟩ (.string (markT (k+3 * (j:Int)+1+1)))) F (.slice (some ⟨g,0,none⟩) xs.length c) ((markN xs k).take (j+1)++xs.drop (j+1))):=⟨by
    have hst:=HST.out;rw [show k+3 * (j:Int)+2=k+3 * (j:Int)+1+1 by omega] at hst;rw [← hst,HF.out];have hset:=HPUT.out (w3.setCell ⟨g,j * 3+2,none⟩ (.string (markT (k+3 * (j:Int)+1+1)))) _ ⟨k+3 * (j:Int),k+3 * (j:Int)+1,markT (k+3 * (j:Int)+1+1)⟩ (encN ⟨k+3 * (j:Int),k+3 * (j:Int)+1,markT (k+3 * (j:Int)+1+1)⟩) [] (fun q hq=>by
     have hn:=HNIL.out;rw [List.append_nil] at hn;rw [hn] at hq
     cases hq) (blk_set hg3 _ _) (by
     rw [Array.toList_setIfInBounds,Array.toList_setIfInBounds,Array.toList_setIfInBounds,HCUR.out,List.append_assoc,List.append_assoc];exact set_three pre post _ _ _ _ _ _ _ HPRE.out) ⟨rfl,rfl⟩
    exact hset⟩
   have HB2:Aside0 (But F w (w3.setCell ⟨g,j * 3+2,none⟩ (.string (markT (k+3 * (j:Int)+1+1))))):=⟨(HBu.trans (But.of_below hb)).set (by rw [HF.out];simp) _⟩;clear hb hx0 hx1 hy0 hy1 hg hg2 hc0 hc1 hc2 HR HB HBu HST HPUT HCUR HPRE HF HNIL;have q5:wrap64 (k+3 * (j:Int)+1+1+1)=k+3 * (j:Int)+1+1+1:=by unfold wrap64;omega
   go_wp2_with (omega)
   go_roundw
   case rel=>exact ⟨j+1,by omega,by go_num,by first|rfl|(congr 1;omega)|(congr 1;push_cast;omega),HR2,HB2⟩
   case measure=>simp [intOf];omega
  ·have e1:j=xs.length:=by omega
   subst e1;go_wp2_with (omega);go_ret;exact ⟨rfl,by have h:=HR.out;rw [List.drop_of_length_le (Nat.le_refl _),List.append_nil,List.take_of_length_le (by rw [markN_length];omega)] at h;exact h,HB.out⟩
end Go.Proofs.YtbahacapnaohcaaGreatDoor.PB
