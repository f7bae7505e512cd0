import Derived.Test.YtbahacapnaohcaaGreatDoorA24
set_option linter.unusedVariables false
set_option linter.unusedSimpArgs false
namespace Go.Proofs.YtbahacapnaohcaaGreatDoor.PB
open Go.RowKit Go.Proofs.YtbahacapnaohcaaGreatDoorW.PrintWords Go.Proofs.YtbahacapnaohcaaGreatDoorW.PrintLast Go.Proofs.YtbahacapnaohcaaGreatDoorW.PrintMore
def cntD (x:S65):Nat:=1+x.f1.length+3 * x.f2.f0.length
def markD1 (x:S65) (k:Int):S65:=⟨markT k,markS x.f1 (k+1),⟨markN x.f2.f0 (k+1+x.f1.length)⟩⟩
def markD:List S65→Int→List S65
 | [],_=>[]
 | x :: r,k=>markD1 x k :: markD r (k+cntD x)
def sumD:List S65→Nat
 | []=>0
 | x :: r=>cntD x+sumD r
theorem markD_length:∀ (l:List S65) (k:Int),(markD l k).length=l.length
 | [],_=>rfl
 | _ :: r,k=>by simp [markD,markD_length r]
theorem sumD_take:∀ (xs:List S65) (j:Nat) (h:j<xs.length),sumD (xs.take (j+1))=sumD (xs.take j)+cntD xs[j]
 | x :: r,0,h=>by simp [sumD]
 | x :: r,j+1,h=>by
  have:=sumD_take r j (by simpa using h);simp only [List.take_succ_cons,sumD,List.getElem_cons_succ] at this ⊢;omega
theorem sumD_le:∀ (xs:List S65) (j:Nat),sumD (xs.take j)≤sumD xs
 | [],j=>by simp [sumD]
 | x :: r,0=>by simp [sumD]
 | x :: r,j+1=>by
  have:=sumD_le r j;simp only [List.take_succ_cons,sumD];omega
theorem markD_step (xs:List S65) (k:Int) (j:Nat) (h:j<xs.length):((markD xs k).take j++xs.drop j).set j (markD1 xs[j] (k+sumD (xs.take j)))=(markD xs k).take (j+1)++xs.drop (j+1):=by
 induction xs generalizing k j with
 | nil=>simp at h
 | cons x r ih=>
  cases j with
  | zero=>simp [markD,sumD]
  | succ j=>
   have:=ih (k+cntD x) j (by simpa using h);simp only [markD,List.take_succ_cons,List.drop_succ_cons,List.cons_append,List.set_cons_succ,List.getElem_cons_succ,sumD];rw [← this]
   congr 3
   push_cast
   omega
set_option maxHeartbeats 4000000 in
set_option maxRecDepth 100000 in
theorem markProgDefS_calls {F:List Nat} {v:Value} {xs:List S65} (k:Int) (w:World) (h:t65.Row 65 w F v xs) (hnd:F.Nodup) (hk0:0≤k) (hk:k+sumD xs≤4611686018427387904) :
 Calls Tryz.prog 106 #[v,.int .i64 k] w fun e w'=>e=.returned (.int .i64 (k+sumD xs))∧t65.Row 65 w' F v (markD xs k)∧But F w w':=by
 obtain ⟨A,c,e1,hc,hcm⟩:∃ A c,v=.slice A xs.length c∧xs.length≤c∧c≤9223372036854775807:=by obtain ⟨A,c,h1,h2,h3,_⟩:=h;exact ⟨A,c,h1,h2,h3⟩
 subst e1;have HR:=am h;have HND:=am hnd;clear h hnd;have hu65:=Tryz.underlying65;have hu25:=Tryz.underlying25;go_enter Tryz.func106,Tryz.ntmps106;go_wp2
 go_loopw [1,5] (fun kv i wr=>∃ (j:Nat),j≤xs.length∧i=.int .i64 j∧kv=.int .i64 (k+sumD (xs.take j))∧Aside0 (t65.Row 65 wr F (.slice A xs.length c) ((markD xs k).take j++xs.drop j))∧Aside0 (But F w wr)) (fun _ i _=>xs.length - (intOf i).toNat)
 case atStart=>exact ⟨0,Nat.zero_le _,rfl,by simp [sumD],⟨by simpa using HR.out⟩,⟨But.refl _ _⟩⟩
 case round=>
  clear HR;obtain ⟨j,hj,rfl,rfl,HR,HB⟩:=hrel
  by_cases hlt:j<xs.length
  ·have HST:=am (markD_step xs k j hlt);have hsum:=sumD_take xs j hlt;have hle:=sumD_le xs (j+1);have hml:(markD xs k).length=xs.length:=markD_length xs k;have hxj:((markD xs k).take j++xs.drop j)[j]?=some xs[j]:=by
    rw [List.getElem?_append_right (by rw [List.length_take];omega),List.length_take,List.getElem?_drop,Nat.min_eq_left (by omega),Nat.sub_self,Nat.add_zero,List.getElem?_eq_getElem hlt]
   obtain ⟨g,cur,F1,Fj,F2,pre,cc,post,c2,e1,_,hF,hg,hcur,hpre,hT,hput⟩:=KT.row_open HR.out hxj;injection e1 with e1 e2 e3
   subst e1;clear e2;subst e3;have HLT:=am (KT.Row_lt HR.out);obtain ⟨Fa,Fb,v1,v2,hFj,hcc,hra,hrb⟩:=hT;subst hFj;subst hcc;have hRA:=am hra;have hRB:=am hrb;obtain ⟨X1,d1,rfl,_⟩:=hra;obtain ⟨X2,d2,rfl,_⟩:=hrb;have hp:pre.length=j * 3:=hpre;have hget:∀ i u,[Value.string xs[j].f0,.slice X1 xs[j].f1.length d1,.slice X2 xs[j].f2.f0.length d2][i]?=some u→cur[j * 3+i]?=some u:=fun i u hi=>by
    have hi3:i<3:=(List.getElem?_eq_some_iff.1 hi).1;rw [← Array.getElem?_toList,hcur,List.append_assoc,← hp,List.getElem?_append_right (by omega),Nat.add_sub_cancel_left,List.getElem?_append_left (by simpa using hi3)];exact hi
   have hc0:=hget 0 _ rfl;have hc1:=hget 1 _ rfl;have hc2:=hget 2 _ rfl;have hnd:=HND.out;rw [hF] at hnd;have hnd1:=(List.nodup_cons.1 hnd).1;have hnd2:=List.nodup_append.1 (List.nodup_cons.1 hnd).2;have hnd3:=List.nodup_append.1 hnd2.1;have hnd4:=List.nodup_append.1 hnd3.2.1;have hga:g∉Fa:=fun h=>hnd1 (by simp [h])
   have hgb:g∉Fb:=fun h=>hnd1 (by simp [h])
   have hab:∀ q,q∈Fa→q∉Fb:=fun q h1 h2=>hnd4.2.2 q h1 q h2 rfl
   have hg12:∀ q,q∈F1++F2→q≠g∧q∉Fa∧q∉Fb:=fun q hq=>by
    rcases List.mem_append.1 hq with h|h
    ·exact ⟨fun e=>hnd1 (by rw [← e];simp [h]),fun h2=>hnd3.2.2 q h q (by simp [h2]) rfl,fun h2=>hnd3.2.2 q h q (by simp [h2]) rfl⟩
    ·exact ⟨fun e=>hnd1 (by rw [← e];simp [h]),fun h2=>hnd2.2.2 q (by simp [h2]) q h rfl,fun h2=>hnd2.2.2 q (by simp [h2]) q h rfl⟩
   have hcnt:cntD xs[j]=1+xs[j].f1.length+3 * xs[j].f2.f0.length:=rfl;obtain ⟨kk,hkk⟩:∃ kk:Int,kk=k+sumD (xs.take j):=⟨_,rfl⟩;have hkk0:0≤kk:=by omega
   have hkk1:kk+cntD xs[j]≤4611686018427387904:=by omega
   have hnext:kk+1+xs[j].f1.length+3 * xs[j].f2.f0.length=k+sumD (xs.take (j+1)):=by rw [hsum,hkk,hcnt];push_cast;omega
   rw [← hkk] at HST ⊢;have HNEXT:=am hnext;have HF:=am hF;have HCUR:=am hcur;have HPUT:=am hput;have HPRE:=am hp;have HG12:=am hg12;have HAB:=am (And.intro hga (And.intro hgb hab));rw [hcnt] at hkk1;clear hxj hcur hpre hput hF hml hget hp hnd hnd1 hnd2 hnd3 hnd4 hg12 hab hga hgb hkk hnext hsum hle hcnt;generalize hyy:xs[j]=y at *;clear hyy;go_wp2_with (omega);refine (markText_calls kk hkk0 (by omega) wr).mono ?_;rintro e w1 ⟨rfl,hb⟩;have hg1:=(hb.block _ (Array.getElem?_eq_some_iff.1 hg).1).trans hg;have hx0:w1.cell? ⟨g,j * 3,none⟩=some (.string y.f0):=(blk_cell hg1 _).trans hc0;have hy0:=blk_frozen hg1 (j * 3);obtain ⟨w2,hw2⟩:∃ w2,w2=w1.setCell ⟨g,j * 3,none⟩ (.string (markT kk)):=⟨_,rfl⟩;have hg2:w2.heap[g]?=some (.cells (cur.setIfInBounds (j * 3) (.string (markT kk))) 65 (0,0)):=by rw [hw2];exact blk_set hg1 _ _
   have hk2:∀ q,q<wr.heap.size→q≠g→w2.heap[q]?=wr.heap[q]?:=fun q h1 h2=>by rw [hw2];exact (Below.heap_setCell _ _ _ _ h2).trans (hb.block q h1)
   have HB2:But F w w2:=by rw [hw2];exact (HB.out.trans (But.of_below hb)).set (by rw [HF.out];simp) _
   have hra2:tS.Row 9 w2 Fa (.slice X1 y.f1.length d1) y.f1:=KT.Row_frame (fun q hq=>hk2 q (KT.Row_lt hRA.out q hq) (fun e=>HAB.out.1 (e ▸ hq))) hRA.out;have hrb2:tN.Row 102 w2 Fb (.slice X2 y.f2.f0.length d2) y.f2.f0:=KT.Row_frame (fun q hq=>hk2 q (KT.Row_lt hRB.out q hq) (fun e=>HAB.out.2.1 (e ▸ hq))) hRB.out;have hs2:wr.heap.size≤w2.heap.size:=by rw [hw2];simpa [World.setCell] using hb.size
   have hcu1:(cur.setIfInBounds (j * 3) (.string (markT kk)))[j * 3+1]?=some (.slice X1 y.f1.length d1):=by rw [Array.getElem?_setIfInBounds_ne (by omega)];exact hc1
   have hcu2:(cur.setIfInBounds (j * 3) (.string (markT kk)))[j * 3+2]?=some (.slice X2 y.f2.f0.length d2):=by rw [Array.getElem?_setIfInBounds_ne (by omega)];exact hc2
   have hx1:(w1.setCell ⟨g,j * 3,none⟩ (.string (markT kk))).cell? ⟨g,j * 3+1,none⟩=some (.slice X1 y.f1.length d1):=by rw [← hw2];exact (blk_cell hg2 _).trans hcu1
   have HW2:=am hw2;clear hw2;have q1:wrap64 (kk+1)=kk+1:=by unfold wrap64;omega
   have HC1:=am (markStringS_calls (kk+1) w2 hra2 (by omega) (by omega));have HLTF:=am (And.intro (KT.Row_lt hra2) (KT.Row_lt hrb2));go_wp2_with (omega);rw [← HW2.out];refine HC1.out.mono ?_;rintro e w3 ⟨rfl,hra3,hbu3⟩;have hg3:w3.heap[g]?=some (.cells (cur.setIfInBounds (j * 3) (.string (markT kk))) 65 (0,0)):=(hbu3.block g (Array.getElem?_eq_some_iff.1 hg2).1 HAB.out.1).trans hg2;have hrb3:=KT.Row_frame (w':=w3) (fun q hq=>hbu3.block q (KT.Row_lt hrb2 q hq) (fun h=>HAB.out.2.2 q h hq)) hrb2;have hx2:w3.cell? ⟨g,j * 3+2,none⟩=some (.slice X2 y.f2.f0.length d2):=(blk_cell hg3 _).trans hcu2;have HC2:=am (markTermNodeS_calls (kk+1+y.f1.length) w3 hrb3 (by omega) (by omega));clear hx0 hx1 hy0;go_wp2_with (omega);refine HC2.out.mono ?_;rintro e w4 ⟨rfl,hrb4,hbu4⟩;have hra4:=KT.Row_frame (w':=w4) (fun q hq=>hbu4.block q (KT.Row_lt hra3 q hq) (HAB.out.2.2 q hq)) hra3;have hg4:w4.heap[g]?=some (.cells (cur.setIfInBounds (j * 3) (.string (markT kk))) 65 (0,0)):=(hbu4.block g (Array.getElem?_eq_some_iff.1 hg3).1 HAB.out.2.1).trans hg3;have hz23:=hbu3.size;have hlF:=HLT.out;rw [HF.out] at hlF;have hfin:=HPUT.out w4 _ (markD1 y kk) [.string (markT kk),.slice X1 y.f1.length d1,.slice X2 y.f2.f0.length d2] (Fa++Fb) (fun q hq=>by
    obtain ⟨n1,n2,n3⟩:=HG12.out q hq;have hl:=hlF q (by
     rcases List.mem_append.1 hq with h|h
     ·simp [h]
     ·simp [h])
    exact (hbu4.block q (by omega) n3).trans ((hbu3.block q (by omega) n2).trans (hk2 q hl n1))) hg4 (by
    rw [Array.toList_setIfInBounds,HCUR.out,List.append_assoc,← HPRE.out,List.set_append_right _ _ (Nat.le_refl _),Nat.sub_self]
    simp) ⟨Fa,Fb,_,_,rfl,rfl,by unfold markD1;simpa [markS_length] using hra4,by unfold markD1;simpa [markN_length] using hrb4⟩
   rw [← HF.out,HST.out] at hfin;have HB4:But F w w4:=HB2.trans ((hbu3.mono (fun q hq=>by rw [HF.out];simp [hq])).trans (hbu4.mono (fun q hq=>by rw [HF.out];simp [hq])));have HR4:=am hfin;clear hfin hra3 hra4 hrb3 hrb4 hg1 hg2 hg3 hg4 hx2 hk2 hra2 hrb2 hcu1 hcu2 hc0 hc1 hc2 hlF hg HR HB;go_wp2_with (omega)
   go_roundw
   case rel=>exact ⟨j+1,by omega,by go_num,by rw [HNEXT.out],HR4,⟨HB4⟩⟩
   case measure=>simp [intOf];omega
  ·have e1:j=xs.length:=by omega
   subst e1;rw [List.take_of_length_le (Nat.le_refl _)];go_wp2_with (omega);go_ret;exact ⟨rfl,by have h:=HR.out;rw [List.drop_of_length_le (Nat.le_refl _),List.append_nil,List.take_of_length_le (by rw [markD_length];omega)] at h;exact h,HB.out⟩
def cntR (x:S63):Nat:=1+3 * x.f1.f0.length+3 * x.f2.f0.length
def markR1 (x:S63) (k:Int):S63:=⟨k,⟨markN x.f1.f0 (k+1)⟩,⟨markN x.f2.f0 (k+1+3 * x.f1.f0.length)⟩⟩
def markR:List S63→Int→List S63
 | [],_=>[]
 | x :: r,k=>markR1 x k :: markR r (k+cntR x)
def sumR:List S63→Nat
 | []=>0
 | x :: r=>cntR x+sumR r
theorem markR_length:∀ (l:List S63) (k:Int),(markR l k).length=l.length
 | [],_=>rfl
 | _ :: r,k=>by simp [markR,markR_length r]
theorem sumR_take:∀ (xs:List S63) (j:Nat) (h:j<xs.length),sumR (xs.take (j+1))=sumR (xs.take j)+cntR xs[j]
 | x :: r,0,h=>by simp [sumR]
 | x :: r,j+1,h=>by
  have:=sumR_take r j (by simpa using h);simp only [List.take_succ_cons,sumR,List.getElem_cons_succ] at this ⊢;omega
theorem sumR_le:∀ (xs:List S63) (j:Nat),sumR (xs.take j)≤sumR xs
 | [],j=>by simp [sumR]
 | x :: r,0=>by simp [sumR]
 | x :: r,j+1=>by
  have:=sumR_le r j;simp only [List.take_succ_cons,sumR];omega
theorem markR_step (xs:List S63) (k:Int) (j:Nat) (h:j<xs.length):((markR xs k).take j++xs.drop j).set j (markR1 xs[j] (k+sumR (xs.take j)))=(markR xs k).take (j+1)++xs.drop (j+1):=by
 induction xs generalizing k j with
 | nil=>simp at h
 | cons x r ih=>
  cases j with
  | zero=>simp [markR,sumR]
  | succ j=>
   have:=ih (k+cntR x) j (by simpa using h);simp only [markR,List.take_succ_cons,List.drop_succ_cons,List.cons_append,List.set_cons_succ,List.getElem_cons_succ,sumR];rw [← this]
   congr 3
   push_cast
   omega
set_option maxHeartbeats 4000000 in
set_option maxRecDepth 100000 in
theorem markProgRelS_calls {F:List Nat} {v:Value} {xs:List S63} (k:Int) (w:World) (h:t63.Row 63 w F v xs) (hnd:F.Nodup) (hk0:0≤k) (hk:k+sumR xs≤4611686018427387904) :
 Calls Tryz.prog 108 #[v,.int .i64 k] w fun e w'=>e=.returned (.int .i64 (k+sumR xs))∧t63.Row 63 w' F v (markR xs k)∧But F w w':=by
 obtain ⟨A,c,e1,hc,hcm⟩:∃ A c,v=.slice A xs.length c∧xs.length≤c∧c≤9223372036854775807:=by obtain ⟨A,c,h1,h2,h3,_⟩:=h;exact ⟨A,c,h1,h2,h3⟩
 subst e1;have HR:=am h;have HND:=am hnd;clear h hnd;have hu63:=Tryz.underlying63;have hu25:=Tryz.underlying25;go_enter Tryz.func108,Tryz.ntmps108;go_wp2
 go_loopw [1,5] (fun kv i wr=>∃ (j:Nat),j≤xs.length∧i=.int .i64 j∧kv=.int .i64 (k+sumR (xs.take j))∧Aside0 (t63.Row 63 wr F (.slice A xs.length c) ((markR xs k).take j++xs.drop j))∧Aside0 (But F w wr)) (fun _ i _=>xs.length - (intOf i).toNat)
 case atStart=>exact ⟨0,Nat.zero_le _,rfl,by simp [sumR],⟨by simpa using HR.out⟩,⟨But.refl _ _⟩⟩
 case round=>
  clear HR;obtain ⟨j,hj,rfl,rfl,HR,HB⟩:=hrel
  by_cases hlt:j<xs.length
  ·have HST:=am (markR_step xs k j hlt);have hsum:=sumR_take xs j hlt;have hle:=sumR_le xs (j+1);have hml:(markR xs k).length=xs.length:=markR_length xs k;have hxj:((markR xs k).take j++xs.drop j)[j]?=some xs[j]:=by
    rw [List.getElem?_append_right (by rw [List.length_take];omega),List.length_take,List.getElem?_drop,Nat.min_eq_left (by omega),Nat.sub_self,Nat.add_zero,List.getElem?_eq_getElem hlt]
   obtain ⟨g,cur,F1,Fj,F2,pre,cc,post,c2,e1,_,hF,hg,hcur,hpre,hT,hput⟩:=KT.row_open HR.out hxj;injection e1 with e1 e2 e3
   subst e1;clear e2;subst e3;have HLT:=am (KT.Row_lt HR.out);obtain ⟨Fa,Fb,v1,v2,hFj,hcc,hra,hrb⟩:=hT;subst hFj;subst hcc;have hRA:=am hra;have hRB:=am hrb;obtain ⟨X1,d1,rfl,_⟩:=hra;obtain ⟨X2,d2,rfl,_⟩:=hrb;have hp:pre.length=j * 3:=hpre;have hget:∀ i u,[Value.int .i64 xs[j].f0,.slice X1 xs[j].f1.f0.length d1,.slice X2 xs[j].f2.f0.length d2][i]?=some u→cur[j * 3+i]?=some u:=fun i u hi=>by
    have hi3:i<3:=(List.getElem?_eq_some_iff.1 hi).1;rw [← Array.getElem?_toList,hcur,List.append_assoc,← hp,List.getElem?_append_right (by omega),Nat.add_sub_cancel_left,List.getElem?_append_left (by simpa using hi3)];exact hi
   have hc0:=hget 0 _ rfl;have hc1:=hget 1 _ rfl;have hc2:=hget 2 _ rfl;have hnd:=HND.out;rw [hF] at hnd;have hnd1:=(List.nodup_cons.1 hnd).1;have hnd2:=List.nodup_append.1 (List.nodup_cons.1 hnd).2;have hnd3:=List.nodup_append.1 hnd2.1;have hnd4:=List.nodup_append.1 hnd3.2.1;have hga:g∉Fa:=fun h=>hnd1 (by simp [h])
   have hgb:g∉Fb:=fun h=>hnd1 (by simp [h])
   have hab:∀ q,q∈Fa→q∉Fb:=fun q h1 h2=>hnd4.2.2 q h1 q h2 rfl
   have hg12:∀ q,q∈F1++F2→q≠g∧q∉Fa∧q∉Fb:=fun q hq=>by
    rcases List.mem_append.1 hq with h|h
    ·exact ⟨fun e=>hnd1 (by rw [← e];simp [h]),fun h2=>hnd3.2.2 q h q (by simp [h2]) rfl,fun h2=>hnd3.2.2 q h q (by simp [h2]) rfl⟩
    ·exact ⟨fun e=>hnd1 (by rw [← e];simp [h]),fun h2=>hnd2.2.2 q (by simp [h2]) q h rfl,fun h2=>hnd2.2.2 q (by simp [h2]) q h rfl⟩
   have hcnt:cntR xs[j]=1+3 * xs[j].f1.f0.length+3 * xs[j].f2.f0.length:=rfl;obtain ⟨kk,hkk⟩:∃ kk:Int,kk=k+sumR (xs.take j):=⟨_,rfl⟩;have hkk0:0≤kk:=by omega
   have hkk1:kk+cntR xs[j]≤4611686018427387904:=by omega
   have hnext:kk+1+3 * xs[j].f1.f0.length+3 * xs[j].f2.f0.length=k+sumR (xs.take (j+1)):=by rw [hsum,hkk,hcnt];push_cast;omega
   rw [← hkk] at HST ⊢;have HNEXT:=am hnext;have HF:=am hF;have HCUR:=am hcur;have HPUT:=am hput;have HPRE:=am hp;have HG12:=am hg12;have HAB:=am (And.intro hga (And.intro hgb hab));rw [hcnt] at hkk1;clear hxj hcur hpre hput hF hml hget hp hnd hnd1 hnd2 hnd3 hnd4 hg12 hab hga hgb hkk hnext hsum hle hcnt;generalize hyy:xs[j]=y at *;clear hyy;have hx0:wr.cell? ⟨g,j * 3,none⟩=some (.int .i64 y.f0):=(blk_cell hg _).trans hc0;have hy0:=blk_frozen hg (j * 3);obtain ⟨w2,hw2⟩:∃ w2,w2=wr.setCell ⟨g,j * 3,none⟩ (.int .i64 kk):=⟨_,rfl⟩;have hg2:w2.heap[g]?=some (.cells (cur.setIfInBounds (j * 3) (.int .i64 kk)) 63 (0,0)):=by rw [hw2];exact blk_set hg _ _
   have hk2:∀ q,q<wr.heap.size→q≠g→w2.heap[q]?=wr.heap[q]?:=fun q h1 h2=>by rw [hw2];exact Below.heap_setCell _ _ _ _ h2
   have HB2:But F w w2:=by rw [hw2];exact HB.out.set (by rw [HF.out];simp) _
   have hra2:tN.Row 102 w2 Fa (.slice X1 y.f1.f0.length d1) y.f1.f0:=KT.Row_frame (fun q hq=>hk2 q (KT.Row_lt hRA.out q hq) (fun e=>HAB.out.1 (e ▸ hq))) hRA.out;have hrb2:tN.Row 102 w2 Fb (.slice X2 y.f2.f0.length d2) y.f2.f0:=KT.Row_frame (fun q hq=>hk2 q (KT.Row_lt hRB.out q hq) (fun e=>HAB.out.2.1 (e ▸ hq))) hRB.out;have hs2:wr.heap.size≤w2.heap.size:=by rw [hw2];simp [World.setCell]
   have hcu1:(cur.setIfInBounds (j * 3) (.int .i64 kk))[j * 3+1]?=some (.slice X1 y.f1.f0.length d1):=by rw [Array.getElem?_setIfInBounds_ne (by omega)];exact hc1
   have hcu2:(cur.setIfInBounds (j * 3) (.int .i64 kk))[j * 3+2]?=some (.slice X2 y.f2.f0.length d2):=by rw [Array.getElem?_setIfInBounds_ne (by omega)];exact hc2
   have hx1:(wr.setCell ⟨g,j * 3,none⟩ (.int .i64 kk)).cell? ⟨g,j * 3+1,none⟩=some (.slice X1 y.f1.f0.length d1):=by rw [← hw2];exact (blk_cell hg2 _).trans hcu1
   have HW2:=am hw2;clear hw2;have q1:wrap64 (kk+1)=kk+1:=by unfold wrap64;omega
   have HC1:=am (markTermNodeS_calls (kk+1) w2 hra2 (by omega) (by omega));have HLTF:=am (And.intro (KT.Row_lt hra2) (KT.Row_lt hrb2));go_wp2_with (omega);rw [← HW2.out];refine HC1.out.mono ?_;rintro e w3 ⟨rfl,hra3,hbu3⟩;have hg3:w3.heap[g]?=some (.cells (cur.setIfInBounds (j * 3) (.int .i64 kk)) 63 (0,0)):=(hbu3.block g (Array.getElem?_eq_some_iff.1 hg2).1 HAB.out.1).trans hg2;have hrb3:=KT.Row_frame (w':=w3) (fun q hq=>hbu3.block q (KT.Row_lt hrb2 q hq) (fun h=>HAB.out.2.2 q h hq)) hrb2;have hx2:w3.cell? ⟨g,j * 3+2,none⟩=some (.slice X2 y.f2.f0.length d2):=(blk_cell hg3 _).trans hcu2;have HC2:=am (markTermNodeS_calls (kk+1+3 * y.f1.f0.length) w3 hrb3 (by omega) (by omega));clear hx0 hx1 hy0;go_wp2_with (omega);refine HC2.out.mono ?_;rintro e w4 ⟨rfl,hrb4,hbu4⟩;have hra4:=KT.Row_frame (w':=w4) (fun q hq=>hbu4.block q (KT.Row_lt hra3 q hq) (HAB.out.2.2 q hq)) hra3;have hg4:w4.heap[g]?=some (.cells (cur.setIfInBounds (j * 3) (.int .i64 kk)) 63 (0,0)):=(hbu4.block g (Array.getElem?_eq_some_iff.1 hg3).1 HAB.out.2.1).trans hg3;have hz23:=hbu3.size;have hlF:=HLT.out;rw [HF.out] at hlF;have hfin:=HPUT.out w4 _ (markR1 y kk) [.int .i64 kk,.slice X1 y.f1.f0.length d1,.slice X2 y.f2.f0.length d2] (Fa++Fb) (fun q hq=>by
    obtain ⟨n1,n2,n3⟩:=HG12.out q hq;have hl:=hlF q (by
     rcases List.mem_append.1 hq with h|h
     ·simp [h]
     ·simp [h])
    exact (hbu4.block q (by omega) n3).trans ((hbu3.block q (by omega) n2).trans (hk2 q hl n1))) hg4 (by
    rw [Array.toList_setIfInBounds,HCUR.out,List.append_assoc,← HPRE.out,List.set_append_right _ _ (Nat.le_refl _),Nat.sub_self]
    simp) ⟨Fa,Fb,_,_,rfl,rfl,by unfold markR1;simpa [markN_length] using hra4,by unfold markR1;simpa [markN_length] using hrb4⟩
   rw [← HF.out,HST.out] at hfin;have HB4:But F w w4:=HB2.trans ((hbu3.mono (fun q hq=>by rw [HF.out];simp [hq])).trans (hbu4.mono (fun q hq=>by rw [HF.out];simp [hq])));have HR4:=am hfin;clear hfin hra3 hra4 hrb3 hrb4 hg2 hg3 hg4 hx2 hk2 hra2 hrb2 hcu1 hcu2 hc0 hc1 hc2 hlF hg HR HB;go_wp2_with (omega)
   go_roundw
   case rel=>exact ⟨j+1,by omega,by go_num,by rw [HNEXT.out],HR4,⟨HB4⟩⟩
   case measure=>simp [intOf];omega
  ·have e1:j=xs.length:=by omega
   subst e1;rw [List.take_of_length_le (Nat.le_refl _)];go_wp2_with (omega);go_ret;exact ⟨rfl,by have h:=HR.out;rw [List.drop_of_length_le (Nat.le_refl _),List.append_nil,List.take_of_length_le (by rw [markR_length];omega)] at h;exact h,HB.out⟩
set_option maxHeartbeats 4000000 in
set_option maxRecDepth 100000 in
theorem markProg_calls {F:List Nat} {v:Value} {l0:List S65} {l1:List ByteArray} {l2:List S63} (k:Int) (w:World) (h:PT w F v l0 l1 l2) (hnd:F.Nodup) (hk0:0≤k) (hk:k+sumD l0+l1.length+sumR l2≤4611686018427387904) :
 Calls Tryz.prog 37 #[v,.int .i64 k] w fun e w'=>e=.returned (.int .i64 (k+sumD l0+l1.length+sumR l2))∧PT w' F v (markD l0 k) (markS l1 (k+sumD l0)) (markR l2 (k+sumD l0+l1.length))∧But F w w':=by
 obtain ⟨F0,F1,F2,v0,v1,v2,rfl,rfl,h0,h1,h2⟩:=h;have hn:=List.nodup_append.1 hnd;have hn1:=List.nodup_append.1 hn.1;have H0:=am h0;have H1:=am h1;have H2:=am h2;obtain ⟨A0,c0,rfl,_⟩:=h0;obtain ⟨A1,c1,rfl,_⟩:=h1;obtain ⟨A2,c2,rfl,_⟩:=h2;have HD:=am (show (∀ q,q∈F0→q∉F1)∧(∀ q,q∈F0→q∉F2)∧(∀ q,q∈F1→q∉F2) from ⟨fun q a b=>hn1.2.2 q a q b rfl,fun q a b=>hn.2.2 q (by simp [a]) q b rfl,fun q a b=>hn.2.2 q (by simp [a]) q b rfl⟩);have HN:=am (And.intro hn1.1 (And.intro hn1.2.1 hn.2.1));clear hn hn1 hnd;have hu38:=Tryz.underlying38;go_enter Tryz.func37,Tryz.ntmps37;go_wp2_with fail;have hl0:=KT.Row_lt H0.out;have hl1:=KT.Row_lt H1.out;have hl2:=KT.Row_lt H2.out;obtain ⟨w0,hw0⟩:∃ w0,w0=w.alloc (.cells #[.slice A0 l0.length c0,.slice A1 l1.length c1,.slice A2 l2.length c2] 38):=⟨_,rfl⟩;have hb0:Below w.heap.size w w0:=by rw [hw0];exact be
 have hbx:w0.heap[w.heap.size]?=some (.cells #[.slice A0 l0.length c0,.slice A1 l1.length c1,.slice A2 l2.length c2] 38):=by rw [hw0];simp [World.alloc,-World.alloc_eq]
 rw [← hw0];clear hw0;refine (markProgDefS_calls k w0 (KT.Row_below H0.out hb0) HN.out.1 hk0 (by omega)).mono ?_;rintro e w1 ⟨rfl,r0,b0⟩;have hbx1:=(b0.block _ (Array.getElem?_eq_some_iff.1 hbx).1 (fun h=>by have:=hl0 _ h;omega)).trans hbx;have hx1:w1.cell? ⟨w.heap.size,1,none⟩=some (.slice A1 l1.length c1):=(blk_cell hbx1 1).trans rfl;have r1:=KT.Row_frame (w':=w1) (fun q hq=>b0.block q (Nat.lt_of_lt_of_le (hl1 q hq) hb0.size) (fun h=>HD.out.1 q h hq)) (KT.Row_below H1.out hb0);have R0:=am r0;have R1:=am r1;have B0:=am b0;clear r0 r1 b0;go_wp2_with fail;refine (markStringS_calls (k+sumD l0) w1 R1.out (by omega) (by omega)).mono ?_;rintro e w2 ⟨rfl,r1,b1⟩;have hbx2:=(b1.block _ (Array.getElem?_eq_some_iff.1 hbx1).1 (fun h=>by have:=hl1 _ h;omega)).trans hbx1;have hx2:w2.cell? ⟨w.heap.size,2,none⟩=some (.slice A2 l2.length c2):=(blk_cell hbx2 2).trans rfl;have r0:=KT.Row_frame (w':=w2) (fun q hq=>b1.block q (KT.Row_lt R0.out q hq) (HD.out.1 q hq)) R0.out;have r2:=KT.Row_frame (w':=w2) (fun q hq=>(b1.block q (Nat.lt_of_lt_of_le (hl2 q hq) (Nat.le_trans hb0.size B0.out.size)) (fun h=>HD.out.2.2 q h hq)).trans (B0.out.block q (Nat.lt_of_lt_of_le (hl2 q hq) hb0.size) (fun h=>HD.out.2.1 q h hq))) (KT.Row_below H2.out hb0);have R0':=am r0;have R1':=am r1;have R2':=am r2;have B1:=am b1;clear r0 r1 r2 b1 R0 R1 hx1;go_wp2_with fail;refine (markProgRelS_calls (k+sumD l0+l1.length) w2 R2'.out HN.out.2.2 (by omega) (by omega)).mono ?_;rintro e w3 ⟨rfl,r2,b2⟩;have r0:=KT.Row_frame (w':=w3) (fun q hq=>b2.block q (KT.Row_lt R0'.out q hq) (HD.out.2.1 q hq)) R0'.out;have r1:=KT.Row_frame (w':=w3) (fun q hq=>b2.block q (KT.Row_lt R1'.out q hq) (HD.out.2.2 q hq)) R1'.out;have R0:=am r0;have R1:=am r1;have R2:=am r2;have B2:=am b2;clear r0 r1 r2 b2 R0' R1' R2' hx2 hbx hbx1 hbx2;go_wp2_with fail;go_ret;refine ⟨rfl,⟨F0,F1,F2,_,_,_,rfl,rfl,R0.out,R1.out,R2.out⟩,?_⟩;exact (But.of_below hb0).trans ((B0.out.mono (fun q h=>by simp [h])).trans ((B1.out.mono (fun q h=>by simp [h])).trans (B2.out.mono (fun q h=>by simp [h]))))
end Go.Proofs.YtbahacapnaohcaaGreatDoor.PB
