import Derived.Deep.Slices
import Derived.Deep.Strs
import Derived.ChangeSame
import Derived.Lib.SmallJoins
import Derived.Test.YtbahacapnaohcaaGreatDoorRows
import Derived.Stop.LaidErr
import Derived.LaidMore
import Derived.ProofKit
import Derived.Test.YtbahacapnaohcaaGreatDoorCards
import Derived.Test.YtbahacapnaohcaaGreatDoorTie
import Derived.OpenShut
import Derived.ChangeOld
import Derived.OpenVars
import Derived.LaidHandle
import Derived.Deep.DeepHandedRow
import Derived.Deep.DeepWitnessRowRef
import Derived.Test.YtbahacapnaohcaaGreatDoorL3
set_option linter.unusedVariables false
set_option linter.unusedSimpArgs false
namespace Go.Proofs.YtbahacapnaohcaaGreatDoor.PB
open Go.Joins Go.Deep Go.ChangeShapes Go.RowKit Go.Proofs.YtbahacapnaohcaaGreatDoorW.PrintWords Go.Proofs.YtbahacapnaohcaaGreatDoorW.PrintLast Go.Proofs.YtbahacapnaohcaaGreatDoorW.PrintMore
def Opens {α:Type} (t:TypeId) (d:Kd α) (G:α→Prop):Prop:=∀ {H:Type} {enc:TypeId × Value→H} {W:World} {base:Nat} {spare:Nat→Bool} {held:Bool} {fuel:Nat} {cs:List Value} {x:DataW H × List MemPlace},
 DataW.trod enc Tryz.prog W base spare held fuel t cs=some x→∃ a,d.K W a cs∧G a
theorem opens_int:Opens 3 (Kd.int .i64) (fun _=>True):=fun h=>by
 obtain ⟨n,rfl,_,_⟩:=DataW.trod_int Tryz.underlying3 h;exact ⟨n,rfl,trivial⟩
theorem opens_string:Opens 9 Kd.string (fun s=>s.size≤BD):=fun h=>by
 obtain ⟨s,rfl,_,hs⟩:=DataW.trod_string Tryz.underlying9 h;exact ⟨s,rfl,by unfold maxLen at hs;exact hs⟩
theorem add_add' (a:Addr) (i j:Nat):(a.add i).add j=a.add (i+j):=by
 unfold Addr.add
 by_cases hi:i=0 <;> by_cases hj:j=0 <;> simp [hi,hj,Nat.add_assoc]
theorem opens_slice {α:Type} {t e:TypeId} {d:Kd α} {G:α→Prop} (ht:Tryz.prog.underlying t=some (.slice e)) (hc:Tryz.prog.cellsOf e=d.sz) (h:Opens e d G) :
 Opens t (Kd.slice e d) (fun xs=>xs.length≤BD∧∀ x,x∈xs→G x):=fun {H enc W base spare held fuel cs x} hx=>by
 rcases open_slice ht hx with ⟨rfl,_⟩|⟨a,len,cap,m,n,D,Pl,rfl,_,hl,hm,hmm,_,hel⟩
 ·exact ⟨[],⟨none,0,rfl,Nat.le_refl _,rfl,by simp,fun h0=>by simp at h0⟩,by simp,fun x hx=>by cases hx⟩
 ·have hle:len≤m:=by rw [hmm];split <;> omega
  have hb:len≤BD:=by unfold maxLen at hm;show len≤9223372036854775807;omega
  have key:∀ k,k≤len→∃ xs:List α,xs.length=k∧(∀ x,x∈xs→G x)∧∀ j p,xs[j]?=some p→∃ c,c.length=d.sz∧d.K W p c∧∀ i u,c[i]?=some u→W.cell? (a.add (j * d.sz+i))=some u:=by
   intro k
   induction k with
   | zero=>intro _;exact ⟨[],rfl,(fun x hx=>by cases hx),fun j p hj=>by simp at hj⟩
   | succ k ih=>
    intro hk;obtain ⟨xs,h1,h2,h3⟩:=ih (by omega);obtain ⟨cs',hcs,htr⟩:=hel k (by omega);obtain ⟨y,hy,hg⟩:=h htr;obtain ⟨_,hlen,hcell⟩:=World.cells?_some hcs;refine ⟨xs++[y],by rw [List.length_append,h1];rfl,fun x hx=>?_,fun j p hj=>?_⟩
    ·rcases List.mem_append.1 hx with hx|hx
     ·exact h2 x hx
     ·rw [List.mem_singleton.1 hx];exact hg
    ·by_cases hjk:j<k
     ·rw [List.getElem?_append_left (by omega)] at hj;exact h3 j p hj
     ·have hj2:j=k:=by
       have:=(List.getElem?_eq_some_iff.1 hj).1;rw [List.length_append,h1,List.length_singleton] at this;omega
      subst hj2;rw [List.getElem?_append_right (by omega),h1,Nat.sub_self] at hj;obtain rfl:y=p:=by simpa using hj
      refine ⟨cs',by rw [hlen,hc],hy,fun i u hu=>?_⟩;have hi:i<d.sz:=by rw [← hc,← hlen];exact (List.getElem?_eq_some_iff.1 hu).1
      have:=hcell i (by rw [hc];exact hi);rw [hc,add_add'] at this;exact this.trans hu
  obtain ⟨xs,h1,h2,h3⟩:=key len (Nat.le_refl _);subst h1;exact ⟨xs,⟨some a,cap,rfl,hl,rfl,hb,fun _=>⟨a,rfl,h3⟩⟩,hb,h2⟩
theorem cells3:Tryz.prog.cellsOf 3=1:=by kernel_rfl
theorem cells9:Tryz.prog.cellsOf 9=1:=by kernel_rfl
theorem cells338:Tryz.prog.cellsOf 338=3:=by kernel_rfl
theorem cells232:Tryz.prog.cellsOf 232=3:=by kernel_rfl
theorem cells235:Tryz.prog.cellsOf 235=3:=by kernel_rfl
theorem cells230:Tryz.prog.cellsOf 230=1:=by kernel_rfl
theorem cells35:Tryz.prog.cellsOf 35=1:=by kernel_rfl
theorem cells52:Tryz.prog.cellsOf 52=3:=by kernel_rfl
theorem three_of {cs:List Value} (h:cs.length=3):∃ u0 u1 u2,cs=[u0,u1,u2]:=by
 match cs,h with
 | [a,b,c],_=>exact ⟨a,b,c,rfl⟩
def OkN (y:S338):Prop:=y.f2.size≤BD
theorem opens_node:Opens 338 k338 OkN:=fun h=>by
 obtain ⟨y0,y1,y2,n,_,hl,h0,h1,h2⟩:=trod_struct3 Tryz.underlying338 h;obtain ⟨u0,u1,u2,rfl⟩:=three_of (hl.trans cells338);rw [cells3] at h0 h1;rw [cells9] at h2;obtain ⟨a,ha,_⟩:=opens_int h0;obtain ⟨b,hb,_⟩:=opens_int h1;obtain ⟨c,hc,hg⟩:=opens_string h2;obtain rfl:u0=.int .i64 a:=by have e:[u0]=[.int .i64 a]:=ha;simpa using e
 obtain rfl:u1=.int .i64 b:=by have e:[u1]=[.int .i64 b]:=hb;simpa using e
 obtain rfl:u2=.string c:=by have e:[u2]=[.string c]:=hc;simpa using e
 exact ⟨⟨a,b,c⟩,⟨_,_,rfl,rfl,⟨_,_,rfl,rfl,rfl⟩⟩,hg⟩
theorem opens_nodes:Opens 228 (Kd.slice 338 k338) (fun l=>l.length≤BD∧∀ y,y∈l→OkN y):=opens_slice Tryz.underlying228 (cells338.trans rfl) opens_node
theorem opens_term:Opens 230 (Kd.slice 338 k338) (fun l=>l.length≤BD∧∀ y,y∈l→OkN y):=fun {H enc W base spare held fuel cs x} h=>by
 obtain ⟨y0,n,_,hl,h0⟩:=trod_struct1 Tryz.underlying230 h;have:Tryz.prog.cellsOf 228=1:=by kernel_rfl
 rw [this] at h0;rw [cells230] at hl;have e:(cs.drop 0).take 1=cs:=by rw [List.drop_zero,List.take_of_length_le (by omega)]
 rw [e] at h0;exact opens_nodes h0
theorem opens_strs:Opens 35 (Kd.slice 9 Kd.string) (fun l=>l.length≤BD∧∀ s,s∈l→s.size≤BD):=opens_slice Tryz.underlying35 (cells9.trans rfl) opens_string
theorem opens_def:Opens 232 k232 OkD:=fun h=>by
 obtain ⟨y0,y1,y2,n,_,hl,h0,h1,h2⟩:=trod_struct3 Tryz.underlying232 h;obtain ⟨u0,u1,u2,rfl⟩:=three_of (hl.trans cells232);rw [cells9] at h0;rw [cells35] at h1;rw [cells230] at h2;obtain ⟨a,ha,g0⟩:=opens_string h0;obtain ⟨b,hb,g1⟩:=opens_strs h1;obtain ⟨c,hc,g2⟩:=opens_term h2;obtain rfl:u0=.string a:=by have e:[u0]=[.string a]:=ha;simpa using e
 exact ⟨⟨a,b,⟨c⟩⟩,⟨_,_,rfl,rfl,⟨_,_,rfl,hb,hc⟩⟩,g0,g1.1,g1.2,g2.1,g2.2⟩
theorem opens_rel:Opens 235 k235 OkR:=fun h=>by
 obtain ⟨y0,y1,y2,n,_,hl,h0,h1,h2⟩:=trod_struct3 Tryz.underlying235 h;obtain ⟨u0,u1,u2,rfl⟩:=three_of (hl.trans cells235);rw [cells3] at h0;rw [cells230] at h1 h2;obtain ⟨a,ha,_⟩:=opens_int h0;obtain ⟨b,hb,g1⟩:=opens_term h1;obtain ⟨c,hc,g2⟩:=opens_term h2;obtain rfl:u0=.int .i64 a:=by have e:[u0]=[.int .i64 a]:=ha;simpa using e
 exact ⟨⟨a,⟨b⟩,⟨c⟩⟩,⟨_,_,rfl,rfl,⟨_,_,rfl,hb,hc⟩⟩,g1.1,g1.2,g2.1,g2.2⟩
theorem opens_defs:Opens 49 (Kd.slice 232 k232) (fun l=>l.length≤BD∧∀ y,y∈l→OkD y):=opens_slice Tryz.underlying49 (cells232.trans rfl) opens_def
theorem opens_rels:Opens 50 (Kd.slice 235 k235) (fun l=>l.length≤BD∧∀ y,y∈l→OkR y):=opens_slice Tryz.underlying50 (cells235.trans rfl) opens_rel
set_option maxRecDepth 100000 in
theorem open_prog {H:Type} {enc:TypeId × Value→H} {W:World} {base:Nat} {spare:Nat→Bool} {held:Bool} {r:Reach} {b0:Nat} {v:Value} {d:DataW H} {p:List MemPlace} (hv:Value.okWide Tryz.prog W r b0 52 v) (h:DataW.Trod enc Tryz.prog W base spare held 52 v d p) :
 ∃ A0 c0 q0 A1 c1 q1 A2 c2 q2,v=.agg #[.slice A0 q0.length c0,.slice A1 q1.length c1,.slice A2 q2.length c2]∧QRd W A0 c0 q0 A1 c1 q1 A2 c2 q2∧OkQ q0 q1 q2:=by
 obtain ⟨v0,v1,v2,y0,y1,y2,n,rfl,_,_,h0,h1,h2⟩:=open_agg3 Tryz.underlying52 (by kernel_rfl) cells52 hv h;obtain ⟨q0,⟨A0,c0,e0,l0,k0⟩,g0,g0'⟩:=opens_defs h0;obtain ⟨q1,⟨A1,c1,e1,l1,k1⟩,g1,g1'⟩:=opens_strs h1;obtain ⟨q2,⟨A2,c2,e2,l2,k2⟩,g2,g2'⟩:=opens_rels h2;obtain rfl:v0=.slice A0 q0.length c0:=by have e:[v0]=[.slice A0 q0.length c0]:=e0;simpa using e
 obtain rfl:v1=.slice A1 q1.length c1:=by have e:[v1]=[.slice A1 q1.length c1]:=e1;simpa using e
 obtain rfl:v2=.slice A2 q2.length c2:=by have e:[v2]=[.slice A2 q2.length c2]:=e2;simpa using e
 exact ⟨A0,c0,q0,A1,c1,q1,A2,c2,q2,rfl,⟨k0,l0,k1,l1,k2,l2⟩,⟨g0,g1,g2,g0',g1',g2'⟩⟩
open Go.Deep Go.ChangeShapes Go.WideShapes Go.ChangeAt Go.RowKit Go.Proofs.YtbahacapnaohcaaGreatDoorW.PrintWords Go.Proofs.YtbahacapnaohcaaGreatDoorW.PrintLast Go.Proofs.YtbahacapnaohcaaGreatDoorW.PrintMore
theorem gOwn : Tryz.prog.globalNamed "loop.example/pinfold/impl.ownWords" = some 1 := by kernel_rfl
theorem gOwnT:(Tryz.prog.globals[1]?).map (·.type)=some 35:=by kernel_rfl
theorem gSyn : Tryz.prog.globalNamed "strconv.ErrSyntax" = some 6 := by kernel_rfl
theorem gSynT:(Tryz.prog.globals[6]?).map (·.type)=some 189:=by kernel_rfl
theorem gRng : Tryz.prog.globalNamed "strconv.ErrRange" = some 7 := by kernel_rfl
theorem gRngT:(Tryz.prog.globals[7]?).map (·.type)=some 189:=by kernel_rfl
theorem cells393:Tryz.prog.cellsOf 393=1:=by kernel_rfl
theorem star : "*" ++ "errors.errorString" = "*errors.errorString" := by decide
theorem row391 (u : TypeId) (h : Tryz.prog.typeName? 3 u = some "*errors.errorString") : u = 391 :=
 typeName_ptr_named (nm := "errors.errorString") (by rw [star]; kernel_rfl) (by kernel_rfl) (by decide) u (by rw [star]; exact h)
theorem own_of_laid {r : List (String × DataW Unit)} {W : World} (h : laidMet Tryz.prog (("loop.example/pinfold/impl.ownWords", Rows.laid_loop_example_pinfold_impl_ownWords) :: r) W) :
 ∃ ad c,W.cell? ⟨1,0,none⟩=some (.slice (some ad) 6 c)∧6≤c∧Kd.C Kd.string W (some ad) 6 ownList:=by
 obtain ⟨ps,⟨g0,t0,cs0,f0,p0,q0,hg0,ht0,hv0,hd0,_,e0⟩,_,hrows⟩:=h;obtain rfl:=Option.some.inj (gOwn.symm.trans hg0);obtain rfl:=Option.some.inj (gOwnT.symm.trans ht0)
 rcases open_strs Tryz.underlying35 Tryz.underlying9 cells9 hd0 with ⟨_,hx⟩|⟨a,len,cap,m,S,hcs,_,hl,hm,hmm,hx,hcell⟩
 ·simp [Rows.laid_loop_example_pinfold_impl_ownWords] at hx
 ·unfold Rows.laid_loop_example_pinfold_impl_ownWords at hx
  simp only [Prod.mk.injEq,DataW.slice.injEq] at hx;obtain ⟨⟨hx,_⟩,_⟩:=hx;have hlen:len=6:=by have:=congrArg List.length hx;simpa using this.symm
  subst hlen;have hle:6≤m:=by rw [hmm];split <;> omega
  have hc:W.cell? ⟨1,0,none⟩=some (.slice (some a) 6 cap):=by
   have:=World.var?_cell hg0 hv0 0;rw [Array.eq_one_of_toList hcs] at this
   simpa using this
  refine ⟨a,cap,hc,hl,rfl,by simp,fun _=>⟨a,rfl,fun j p hj=>?_⟩⟩;have hj6:j<6:=(List.getElem?_eq_some_iff.1 hj).1;have hSj:S j=p:=by
   have h6:=congrArg (fun l=>l[j]?) hx;simp only [List.getElem?_map] at h6;rw [List.getElem?_range hj6] at h6
   match j,hj6,hj,h6 with
   | 0,_,hj,h6|1,_,hj,h6|2,_,hj,h6|3,_,hj,h6|4,_,hj,h6|5,_,hj,h6=>
    simp [ownList] at hj h6
    subst hj
    cases hS:S _ with
    | mk d=>rw [hS] at h6;congr 1;apply Array.toList_inj.1;simpa using h6.symm
  refine ⟨[.string p],rfl,rfl,fun i u hu=>?_⟩;obtain ⟨rfl,rfl⟩:i=0∧u=.string p:=by
   match i,hu with
   | 0,hu=>exact ⟨rfl,by simpa using hu.symm⟩
  have:=(hcell j (by omega)).1;rw [hSj] at this
  show W.cell? (a.add (j * 1+0))=_
  rw [Nat.mul_one,Nat.add_zero];exact this
theorem err_cell {W:World} {n:String} {g:Nat} {a:Addr} (hg:Tryz.prog.globalNamed n=some g) (hv:W.var? Tryz.prog n=some #[.iface 391 (.pointer (some a))]):∃ ev,W.cell? ⟨g,0,none⟩=some ev∧(ev=.nilIface∨∃ te pe,ev=.iface te pe):=by
 have:=World.var?_cell hg hv 0;exact ⟨_,by simpa using this,.inr ⟨_,_,rfl⟩⟩
theorem gv_of {W:World} (hL:laidMetH Tryz.prog Rows.fnExactProgShiftRow.laid W) (hS:W.ShapedOpen Tryz.prog):GV W:=by
 rw [MakeChecks.laidMetH_plain _ _ _ (by kernel_rfl)] at hL;have h3:=hL.tail.tail.tail;have h4:=h3.tail;have h5:=h4.tail;obtain ⟨a1,s1,hv1,_⟩:=laid_sentinel h3 gRng gRngT Tryz.underlying189 row391 Tryz.underlying391 Tryz.underlying393 rfl rfl Tryz.underlying9 cells393 cells9;obtain ⟨a2,s2,hv2,_⟩:=laid_sentinel h4 gSyn gSynT Tryz.underlying189 row391 Tryz.underlying391 Tryz.underlying393 rfl rfl Tryz.underlying9 cells393 cells9;exact ⟨own_of_laid h5,Tryz.laysM145.s1_3 W hS,err_cell gSyn hv2,err_cell gRng hv1⟩
end Go.Proofs.YtbahacapnaohcaaGreatDoor.PB
namespace Go.Proofs.YtbahacapnaohcaaGreatDoor.fnExactProgShift
open Go.ChangeShapes Go.WideShapes Go.ChangeAt Go.RowKit Go.Proofs.YtbahacapnaohcaaGreatDoor.PB
theorem own:ownKnob Tryz.prog.godebug=none:=by kernel_rfl
theorem laidOut:laidOutB Tryz.prog=true:=by kernel_rfl
set_option maxRecDepth 100000 in
theorem contract (H:Type) (enc:TypeId × Value→H) (W:World) (base:Nat) (args:Array Value) (ds gs:List (DataW H)) (before:List MemPlace)
 (hval:∀ (j:Nat) t v,Tryz.f5.params[j]?=some t→args[j]?=some v→Value.okWide Tryz.prog W .any base t v)
 (hW:DataW.Whole enc Tryz.prog Tryz.f5.params.toList Rows.fnExactProgShiftSpec.vars false W args.toList ds gs before) (hL:laidMetH Tryz.prog Rows.fnExactProgShiftRow.laid W) (hS:W.ShapedOpen Tryz.prog) :
 Calls Tryz.prog 5 args W fun e W'=>∃ v,e=.returned v∧Rows.fnExactProgShiftSpec.post enc Tryz.prog Tryz.f5 false true false false W args v W':=by
 have hG:=gv_of hL hS;have hW':=hW;obtain ⟨p,q,hA0,hV,rfl,hfz,hnd⟩:=hW;have hA:DataW.TrodAll enc Tryz.prog W 0 (fun _=>true) true Tryz.f5.params.toList args.toList ds p:=hA0;rw [Tryz.params5] at hA hval;obtain ⟨v0,vs0,d0,ds0,p0,q0,hargs,rfl,rfl,h0,r0⟩:=trodAll_cons hA;obtain ⟨v1,vs1,d1,ds1,p1,q1,rfl,rfl,rfl,h1,r1⟩:=trodAll_cons r0;obtain ⟨rfl,rfl,rfl⟩:=trodAll_nil r1;obtain rfl:args=#[v0,v1]:=by cases args;simp_all
 obtain ⟨A0,c0,l0,A1,c1,l1,A2,c2,l2,rfl,hQ,hO⟩:=open_prog (hval 0 52 v0 rfl rfl) h0;obtain ⟨n,rfl,rfl,rfl,w1⟩:=open_int Tryz.underlying3 (hval 1 3 v1 rfl rfl) h1;have lt0:∀ x∈p0,x.block<W.heap.size:=by obtain ⟨m,hm⟩:=h0;exact DataW.trod_lt m _ _ _ hm
 obtain ⟨g1,rfl⟩:∃ g1,gs=[g1]:=by
  match gs,hV with
  | [a],_=>exact ⟨a,rfl⟩
  | [],hV=>exact hV.elim
  | _ :: _ :: _,hV=>obtain ⟨_,_,_,_,_,_,_,_,_,_,hh,_⟩:=hV;exact hh.elim
 clear hA0 hval;refine (law_calls A0 c0 l0 A1 c1 l1 A2 c2 l2 n W hG hQ hO).mono fun e W' ⟨he,bel⟩=>?_
 subst he;exact ⟨_,rfl,_,_,_,[],_,_,hW',trodAll_mk1 (shut_bool Tryz.underlying4 _),
  trodAll_cons_mk (Below.trod laidOut (by kernel_rfl) (of_decide_eq_true (by kernel_rfl)) h0 bel lt0) (trodAll_cons_mk (shut_int Tryz.underlying3 w1) trodAll_mk0),
  Below.trodVars laidOut bel (by kernel_rfl) hV,bel.frame _,fun h=>by cases h⟩
end Go.Proofs.YtbahacapnaohcaaGreatDoor.fnExactProgShift
