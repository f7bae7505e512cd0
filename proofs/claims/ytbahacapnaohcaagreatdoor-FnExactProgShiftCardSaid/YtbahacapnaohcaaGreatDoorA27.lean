import Derived.Test.YtbahacapnaohcaaGreatDoorA23
set_option linter.unusedVariables false
set_option linter.unusedSimpArgs false
namespace Go.Proofs.YtbahacapnaohcaaGreatDoor.PB
open Go.RowKit Go.Proofs.YtbahacapnaohcaaGreatDoorW.PrintWords Go.Proofs.YtbahacapnaohcaaGreatDoorW.PrintLast Go.Proofs.YtbahacapnaohcaaGreatDoorW.PrintMore
theorem cap_of {q0:List S232} {q1:List ByteArray} {q2:List S235} (h:CapQ 1048576 q0 q1 q2):CapP 1048576 (q0.map cD) q1 (q2.map cR):=by
 have hN:∀ l:List S338,(∀ y,y∈l→y.f2.size≤1048576)→CapN 1048576 (l.map cN):=fun l hl x hx=>by
  obtain ⟨y,hy,rfl⟩:=List.mem_map.1 hx;exact hl y hy
 have hL:∀ l:List S338,(l.map cN).length=l.length:=fun l=>List.length_map ..
 refine ⟨by omega,by rw [List.length_map];exact h.n0,h.n1,by rw [List.length_map];exact h.n2,fun x hx=>?_,fun x hx=>?_,fun x hx=>?_,fun x hx=>?_,fun x hx=>?_,h.vars,fun x hx=>?_,fun x hx=>?_,fun x hx=>?_,fun x hx=>?_⟩ <;> obtain ⟨y,hy,rfl⟩:=List.mem_map.1 hx
 ·exact (h.defs y hy).1
 ·exact (h.defs y hy).2.1
 ·exact (h.defs y hy).2.2.1
 ·show (y.f2.f0.map cN).length≤_;rw [hL];exact (h.defs y hy).2.2.2.1
 ·exact hN _ (h.defs y hy).2.2.2.2
 ·show (y.f1.f0.map cN).length≤_;rw [hL];exact (h.rels y hy).1
 ·exact hN _ (h.rels y hy).2.1
 ·show (y.f2.f0.map cN).length≤_;rw [hL];exact (h.rels y hy).2.2.1
 ·exact hN _ (h.rels y hy).2.2.2
theorem sizedQ_of {q0:List S232} {q1:List ByteArray} {q2:List S235} (h:CapQ 1048576 q0 q1 q2):SizedQ q0 q1 q2:=by
 obtain ⟨n0,n1,n2,hd,hv,hr⟩:=h;refine ⟨by omega,by omega,by omega,fun x hx=>?_,fun x hx=>?_⟩
 ·have:=hd x hx;exact ⟨by omega,by omega⟩
 ·have:=hr x hx;exact ⟨by omega,by omega⟩
theorem fit_of {l0:List S65} {l1:List ByteArray} {l2:List S63} (h:CapP 1048576 l0 l1 l2):FitP l0 l1 l2:=by
 have n0:=h.n0;have n1:=h.n1;have n2:=h.n2;have hN:∀ l,CapN 1048576 l→SmallN l:=fun l hl x hx=>by have:=hl x hx;omega
 have hS:∀ l,CapS 1048576 l→SmallS l:=fun l hl x hx=>by have:=hl x hx;omega
 refine { defs:=fun x hx=>⟨by have:=h.names x hx;omega,hS _ (h.pars x hx),hN _ (h.body x hx)⟩,vars:=hS _ h.vars,rels:=fun x hx=>⟨hN _ (h.left x hx),hN _ (h.right x hx)⟩,n0:=by omega,n1:=by omega,n2:=by omega,bodies:=fun x hx=>by have:=h.bodn x hx;omega,sides:=fun x hx=>⟨by have:=h.lefn x hx;omega,by have:=h.rign x hx;omega⟩ }
theorem sized_of {l0:List S65} {l1:List ByteArray} {l2:List S63} (h:CapP 1048576 l0 l1 l2):Sized l0 l1 l2:=by
 have n0:=h.n0;have n1:=h.n1;have n2:=h.n2;exact ⟨by omega,by omega,by omega,fun x hx=>by have:=h.parn x hx;omega,fun x hx=>by have:=h.bodn x hx;omega,fun x hx=>⟨by have:=h.lefn x hx;omega,by have:=h.rign x hx;omega⟩⟩
structure Short (l0:List S65) (l1:List ByteArray) (l2:List S63):Prop where
 n0:l0.length≤1048576
 n1:l1.length≤1048576
 n2:l2.length≤1048576
 d0:∀ x,x∈l0→x.f1.length≤1048576∧x.f2.f0.length≤1048576
 d2:∀ x,x∈l2→x.f1.f0.length≤1048576∧x.f2.f0.length≤1048576
theorem short_of {l0:List S65} {l1:List ByteArray} {l2:List S63} (h:CapP 1048576 l0 l1 l2):Short l0 l1 l2:=
 ⟨h.n0,h.n1,h.n2,fun x hx=>⟨h.parn x hx,h.bodn x hx⟩,fun x hx=>⟨h.lefn x hx,h.rign x hx⟩⟩
theorem short_nil:Short [] [] []:=⟨by simp,by simp,by simp,(fun x hx=>by cases hx),(fun x hx=>by cases hx)⟩
theorem sumD_cap:∀ (l:List S65),(∀ x,x∈l→x.f1.length≤1048576∧x.f2.f0.length≤1048576)→sumD l≤l.length * 4194305
 | [],_=>by simp [sumD]
 | x :: r,h=>by
  have ih:=sumD_cap r (fun y hy=>h y (by simp [hy]));have hx:=h x (by simp);simp only [sumD,cntD,List.length_cons,Nat.succ_mul];omega
theorem sumR_cap:∀ (l:List S63),(∀ x,x∈l→x.f1.f0.length≤1048576∧x.f2.f0.length≤1048576)→sumR l≤l.length * 6291457
 | [],_=>by simp [sumR]
 | x :: r,h=>by
  have ih:=sumR_cap r (fun y hy=>h y (by simp [hy]));have hx:=h x (by simp);simp only [sumR,cntR,List.length_cons,Nat.succ_mul];omega
theorem sum_cap {l0:List S65} {l1:List ByteArray} {l2:List S63} (h:Short l0 l1 l2):sumD l0≤4398047559680∧l1.length≤1048576∧sumR l2≤6597070815232:=by
 have a:=sumD_cap l0 h.d0;have b:=sumR_cap l2 h.d2;have n0:=h.n0;have n2:=h.n2;refine ⟨?_,h.n1,?_⟩ <;> omega
theorem markText_f (x:Int) (h0:0≤x) (h1:x≤9223372036854775807):∀ (d k:Nat),k=21+d→laws_markText.f k x=some (markT x)
 | 0,k,e=>by rw [show k=21 by omega];exact markT_eq x h0 h1
 | d+1,k,e=>by
  obtain rfl:k=(21+d)+1:=by omega
  exact laws_markText.mono x (21+d) _ (markText_f x h0 h1 d (21+d) rfl)
theorem markText_k (x:Int) (h0:0≤x) (h1:x≤9223372036854775807) (k:Nat) (hk:21≤k):laws_markText.f k x=some (markT x):=markText_f x h0 h1 (k - 21) k (by omega)
theorem wadd {a:Int} (k:Int) (h0:0≤a) (h1:a≤4611686018427387904) (h2:0≤k) (h3:k≤1000):wrap64 (a+k)=a+k:=by unfold wrap64;omega
theorem heldS_l0:∀ (xs pre:List ByteArray) (m:Int) (d:Nat),0≤m→m+xs.length≤4611686018427387904→pre.length+xs.length≤1048576→xs.length+22<d→laws_heldStringS.l0 d (pre++markS xs m) m (pre.length:Int)=some (m+xs.length)
 | xs,pre,m,0,_,_,_,h=>by omega
 | [],pre,m,d+1,h0,h1,hn,hd=>by
  unfold laws_heldStringS.l0
  rw [if_neg (by simp [markS])];simp
 | x :: xs,pre,m,d+1,h0,h1,hn,hd=>by
  simp only [List.length_cons] at h1 hn hd
  unfold laws_heldStringS.l0
  have hlt:pre.length<(pre++markS (x :: xs) m).length:=by simp [markS]
  have hg:(pre++markS (x :: xs) m)[pre.length]=markT m:=by simp [markS]
  rw [if_pos (by omega),if_pos (by omega),markText_k m h0 (by omega) d (by omega),Option.bind_some,rdS hlt,hg,if_pos rfl,wadd 1 h0 (by omega) (by omega) (by omega),w64_succ hlt (by simp [markS,markS_length];omega)];have:=heldS_l0 xs (pre++[markT m]) (m+1) d (by omega) (by omega) (by simp;omega) (by omega);have e:pre++[markT m]++markS xs (m+1)=pre++markS (x :: xs) m:=by simp [markS]
  rw [e,List.length_append,List.length_singleton] at this;rw [this,List.length_cons];congr 1;push_cast;omega
theorem heldS_f (xs:List ByteArray) (m:Int) (d:Nat) (h0:0≤m) (h1:m+xs.length≤4611686018427387904) (hn:xs.length≤1048576) (hd:xs.length+22<d):laws_heldStringS.f d (markS xs m) m=some (m+xs.length):=by
 have:=heldS_l0 xs [] m d h0 h1 (by simpa using hn) hd;exact this
theorem heldN_l0:∀ (xs pre:List S102) (m:Int) (d:Nat),0≤m→m+3 * xs.length≤4611686018427387904→pre.length+xs.length≤1048576→xs.length+22<d→laws_heldTermNodeS.l0 d (pre++markN xs m) m (pre.length:Int)=some (m+3 * xs.length)
 | xs,pre,m,0,_,_,_,h=>by omega
 | [],pre,m,d+1,h0,h1,hn,hd=>by
  unfold laws_heldTermNodeS.l0
  rw [if_neg (by simp [markN])];simp
 | x :: xs,pre,m,d+1,h0,h1,hn,hd=>by
  simp only [List.length_cons] at h1 hn hd
  unfold laws_heldTermNodeS.l0
  have hlt:pre.length<(pre++markN (x :: xs) m).length:=by simp [markN]
  have hg:(pre++markN (x :: xs) m)[pre.length]=⟨m,m+1,markT (m+2)⟩:=by simp [markN]
  have e1:=wadd (a:=m) 1 h0 (by omega) (by omega) (by omega);have e2:=wadd (a:=m+1) 1 (by omega) (by omega) (by omega) (by omega);have e3:=wadd (a:=m+1+1) 1 (by omega) (by omega) (by omega) (by omega);rw [if_pos (by omega),if_pos (by omega),rd102 hlt,hg,e1,e2,e3,if_pos rfl,if_pos rfl,show m+1+1=m+2 by omega,markText_k (m+2) (by omega) (by omega) d (by omega),Option.bind_some,if_pos rfl,w64_succ hlt (by simp [markN,markN_length];omega)];have:=heldN_l0 xs (pre++[⟨m,m+1,markT (m+2)⟩]) (m+3) d (by omega) (by omega) (by simp;omega) (by omega);have e:pre++[⟨m,m+1,markT (m+2)⟩]++markN xs (m+3)=pre++markN (x :: xs) m:=by simp [markN]
  rw [e,List.length_append,List.length_singleton] at this;rw [show m+2+1=m+3 by omega,this,List.length_cons];congr 1;push_cast;omega
theorem heldN_f (xs:List S102) (m:Int) (d:Nat) (h0:0≤m) (h1:m+3 * xs.length≤4611686018427387904) (hn:xs.length≤1048576) (hd:xs.length+22<d):laws_heldTermNodeS.f d (markN xs m) m=some (m+3 * xs.length):=by
 have:=heldN_l0 xs [] m d h0 h1 (by simpa using hn) hd;exact this
theorem heldD_l0:∀ (xs pre:List S65) (m:Int) (d:Nat),0≤m→m+sumD xs≤4611686018427387904→pre.length+xs.length≤1048576→(∀ x,x∈xs→x.f1.length≤1048576∧x.f2.f0.length≤1048576)→xs.length+1048600<d→laws_heldProgDefS.l0 d (pre++markD xs m) m (pre.length:Int)=some (m+sumD xs)
 | xs,pre,m,0,_,_,_,_,h=>by omega
 | [],pre,m,d+1,h0,h1,hn,hx,hd=>by
  unfold laws_heldProgDefS.l0
  rw [if_neg (by simp [markD])];simp [sumD]
 | x :: xs,pre,m,d+1,h0,h1,hn,hx,hd=>by
  have hs:sumD (x :: xs)=cntD x+sumD xs:=rfl;have hcn:cntD x=1+x.f1.length+3 * x.f2.f0.length:=rfl;rw [hs] at h1;simp only [List.length_cons] at hn hd;have hlx:=hx x (by simp)
  unfold laws_heldProgDefS.l0
  have hlt:pre.length<(pre++markD (x :: xs) m).length:=by simp [markD]
  have hg:(pre++markD (x :: xs) m)[pre.length]=markD1 x m:=by simp [markD]
  rw [if_pos (by omega),if_pos (by omega),markText_k m h0 (by omega) d (by omega),Option.bind_some,rd65 hlt,hg,if_pos (show (markD1 x m).f0.toList=(markT m).toList from rfl),wadd 1 h0 (by omega) (by omega) (by omega)]
  show ((laws_heldStringS.f d (markS x.f1 (m+1)) (m+1)).bind _)=_
  rw [heldS_f x.f1 (m+1) d (by omega) (by omega) hlx.1 (by omega),Option.bind_some,if_neg (by omega)]
  show ((laws_heldTermNodeS.f d (markN x.f2.f0 (m+1+x.f1.length)) (m+1+x.f1.length)).bind _)=_
  rw [heldN_f x.f2.f0 (m+1+x.f1.length) d (by omega) (by omega) hlx.2 (by omega),Option.bind_some,if_neg (by omega),w64_succ hlt (by simp [markD,markD_length];omega)];have:=heldD_l0 xs (pre++[markD1 x m]) (m+cntD x) d (by omega) (by omega) (by simp;omega) (fun y hy=>hx y (by simp [hy])) (by omega);have e:pre++[markD1 x m]++markD xs (m+cntD x)=pre++markD (x :: xs) m:=by simp [markD]
  rw [e,List.length_append,List.length_singleton] at this;rw [show m+1+(x.f1.length:Int)+3 * (x.f2.f0.length:Int)=m+cntD x by rw [hcn];push_cast;omega,this,hs];congr 1;push_cast;omega
theorem heldD_f (xs:List S65) (m:Int) (d:Nat) (h0:0≤m) (h1:m+sumD xs≤4611686018427387904) (hn:xs.length≤1048576) (hx:∀ x,x∈xs→x.f1.length≤1048576∧x.f2.f0.length≤1048576) (hd:xs.length+1048600<d):laws_heldProgDefS.f d (markD xs m) m=some (m+sumD xs):=by
 have:=heldD_l0 xs [] m d h0 h1 (by simpa using hn) hx hd;exact this
theorem heldR_l0:∀ (xs pre:List S63) (m:Int) (d:Nat),0≤m→m+sumR xs≤4611686018427387904→pre.length+xs.length≤1048576→(∀ x,x∈xs→x.f1.f0.length≤1048576∧x.f2.f0.length≤1048576)→xs.length+1048600<d→laws_heldProgRelS.l0 d (pre++markR xs m) m (pre.length:Int)=some (m+sumR xs)
 | xs,pre,m,0,_,_,_,_,h=>by omega
 | [],pre,m,d+1,h0,h1,hn,hx,hd=>by
  unfold laws_heldProgRelS.l0
  rw [if_neg (by simp [markR])];simp [sumR]
 | x :: xs,pre,m,d+1,h0,h1,hn,hx,hd=>by
  have hs:sumR (x :: xs)=cntR x+sumR xs:=rfl;have hcn:cntR x=1+3 * x.f1.f0.length+3 * x.f2.f0.length:=rfl;rw [hs] at h1;simp only [List.length_cons] at hn hd;have hlx:=hx x (by simp)
  unfold laws_heldProgRelS.l0
  have hlt:pre.length<(pre++markR (x :: xs) m).length:=by simp [markR]
  have hg:(pre++markR (x :: xs) m)[pre.length]=markR1 x m:=by simp [markR]
  rw [if_pos (by omega),if_pos (by omega),rd63 hlt,hg,if_pos (show (markR1 x m).f0=m from rfl),wadd 1 h0 (by omega) (by omega) (by omega)]
  show ((laws_heldTermNodeS.f d (markN x.f1.f0 (m+1)) (m+1)).bind _)=_
  rw [heldN_f x.f1.f0 (m+1) d (by omega) (by omega) hlx.1 (by omega),Option.bind_some,if_neg (by omega)]
  show ((laws_heldTermNodeS.f d (markN x.f2.f0 (m+1+3 * x.f1.f0.length)) (m+1+3 * x.f1.f0.length)).bind _)=_
  rw [heldN_f x.f2.f0 (m+1+3 * x.f1.f0.length) d (by omega) (by omega) hlx.2 (by omega),Option.bind_some,if_neg (by omega),w64_succ hlt (by simp [markR,markR_length];omega)];have:=heldR_l0 xs (pre++[markR1 x m]) (m+cntR x) d (by omega) (by omega) (by simp;omega) (fun y hy=>hx y (by simp [hy])) (by omega);have e:pre++[markR1 x m]++markR xs (m+cntR x)=pre++markR (x :: xs) m:=by simp [markR]
  rw [e,List.length_append,List.length_singleton] at this;rw [show m+1+3 * (x.f1.f0.length:Int)+3 * (x.f2.f0.length:Int)=m+cntR x by rw [hcn];push_cast;omega,this,hs];congr 1;push_cast;omega
theorem heldR_f (xs:List S63) (m:Int) (d:Nat) (h0:0≤m) (h1:m+sumR xs≤4611686018427387904) (hn:xs.length≤1048576) (hx:∀ x,x∈xs→x.f1.f0.length≤1048576∧x.f2.f0.length≤1048576) (hd:xs.length+1048600<d):laws_heldProgRelS.f d (markR xs m) m=some (m+sumR xs):=by
 have:=heldR_l0 xs [] m d h0 h1 (by simpa using hn) hx hd;exact this
theorem heldProg_f {l0:List S65} {l1:List ByteArray} {l2:List S63} (h:Short l0 l1 l2) (m:Int) (h0:0≤m) (h1:m≤1000) (d:Nat) (hd:3000000<d):laws_heldProg.f d (markD l0 m) (markS l1 (m+sumD l0)) (markR l2 (m+sumD l0+l1.length)) m=some (m+sumD l0+l1.length+sumR l2):=by
 obtain ⟨a,b,c⟩:=sum_cap h;have n0:=h.n0;have n1:=h.n1;have n2:=h.n2
 unfold laws_heldProg.f
 rw [heldD_f l0 m d h0 (by omega) n0 h.d0 (by omega),Option.bind_some,if_neg (by omega),heldS_f l1 (m+sumD l0) d (by omega) (by omega) n1 (by omega),Option.bind_some,if_neg (by omega),heldR_f l2 (m+sumD l0+l1.length) d (by omega) (by omega) n2 h.d2 (by omega),Option.bind_some,if_neg (by omega)]
theorem eqProg_calls {A0:Option Addr} {c0:Nat} {l0:List S65} {A1:Option Addr} {c1:Nat} {l1:List ByteArray} {A2:Option Addr} {c2:Nat} {l2:List S63} {B0:Option Addr} {d0:Nat} {B1:Option Addr} {d1:Nat} {B2:Option Addr} {d2:Nat} (w:World) (ha:PRd w A0 c0 l0 A1 c1 l1 A2 c2 l2) (hb:PRd w B0 d0 l0 B1 d1 l1 B2 d2 l2) (hs:Short l0 l1 l2) :
 Calls Tryz.prog 36 #[.agg #[.slice A0 l0.length c0,.slice A1 l1.length c1,.slice A2 l2.length c2],.agg #[.slice B0 l0.length d0,.slice B1 l1.length d1,.slice B2 l2.length d2]] w fun e w'=>e=.returned (.bool true)∧Below w.heap.size w w':=
 laws_eqProg.calls 2097154 A0 c0 l0 A1 c1 l1 A2 c2 l2 B0 d0 l0 B1 d1 l1 B2 d2 l2 true w ha.r0 ha.h0 ha.r1 ha.h1 ha.r2 ha.h2 hb.r0 hb.h0 hb.r1 hb.h1 hb.r2 hb.h2 (eqProg_f l0 l1 l2 hs.n0 hs.n1 hs.n2 hs.d0 hs.d2 2097154 (by omega))
theorem heldProg_calls {l0:List S65} {l1:List ByteArray} {l2:List S63} {F:List Nat} {v:Value} (w:World) (h:PT w F v (markD l0 1) (markS l1 (1+sumD l0)) (markR l2 (1+sumD l0+l1.length))) (hs:Short l0 l1 l2) :
 Calls Tryz.prog 38 #[v,.int .i64 1] w fun e w'=>e=.returned (.int .i64 (1+sumD l0+l1.length+sumR l2))∧Below w.heap.size w w':=by
 obtain ⟨A0,c0,A1,c1,A2,c2,rfl,ha⟩:=h.read;exact laws_heldProg.calls 3000001 A0 c0 _ A1 c1 _ A2 c2 _ 1 _ w ha.r0 ha.h0 ha.r1 ha.h1 ha.r2 ha.h2 (heldProg_f hs 1 (by omega) (by omega) 3000001 (by omega))
theorem szProg_calls {A0:Option Addr} {c0:Nat} {q0:List S232} {A1:Option Addr} {c1:Nat} {q1:List ByteArray} {A2:Option Addr} {c2:Nat} {q2:List S235} (w:World) (hQ:QRd w A0 c0 q0 A1 c1 q1 A2 c2 q2) (r:Int) (hr:laws_szProg.f 2097154 q0 q1 q2 1048576=some r) :
 Calls Tryz.prog 34 #[.agg #[.slice A0 q0.length c0,.slice A1 q1.length c1,.slice A2 q2.length c2],.int .i64 1048576] w fun e w'=>e=.returned (.int .i64 r)∧Below w.heap.size w w':=
 laws_szProg.calls 2097154 A0 c0 q0 A1 c1 q1 A2 c2 q2 1048576 r w hQ.r0 hQ.h0 hQ.r1 hQ.h1 hQ.r2 hQ.h2 hr
theorem PRd_of_SRS {w:World} {base:Nat} {ok0 ok1 ok2:Nat→Prop} {v0 v1 v2:Value} {l0:List S65} {l1:List ByteArray} {l2:List S63} (h0:Kd.S k65 65 w base ok0 v0 l0) (h1:Kd.R Kd.string 9 w base ok1 v1 l1) (h2:Kd.S k63 63 w base ok2 v2 l2) :
 ∃ A0 c0 A1 c1 A2 c2,v0=.slice A0 l0.length c0∧v1=.slice A1 l1.length c1∧v2=.slice A2 l2.length c2∧PRd w A0 c0 l0 A1 c1 l1 A2 c2 l2:=by
 obtain ⟨A0,c0,rfl,a0,b0⟩:=Kd.R_reads (Kd.S_R h0);obtain ⟨A1,c1,rfl,a1,b1⟩:=Kd.R_reads h1;obtain ⟨A2,c2,rfl,a2,b2⟩:=Kd.R_reads (Kd.S_R h2);exact ⟨A0,c0,A1,c1,A2,c2,rfl,rfl,rfl,b0,a0,b1,a1,b2,a2⟩
theorem specShift_calls {A0:Option Addr} {c0:Nat} {l0:List S65} {A1:Option Addr} {c1:Nat} {l1:List ByteArray} {A2:Option Addr} {c2:Nat} {l2:List S63} (n:Int) (w:World) (ha:PRd w A0 c0 l0 A1 c1 l1 A2 c2 l2) (H:CapP 1048576 l0 l1 l2) :
 Calls Tryz.prog 33 #[.agg #[.slice A0 l0.length c0,.slice A1 l1.length c1,.slice A2 l2.length c2],.int .i64 n] w fun e w'=>∃ B0 d0 B1 d1 B2 d2,e=.returned (.tuple #[.agg #[.slice B0 (if shiftOk l0 l1 l2 n=true then l0 else []).length d0,.slice B1 (if shiftOk l0 l1 l2 n=true then l1.drop n.toNat++l1.take n.toNat else []).length d1,.slice B2 (if shiftOk l0 l1 l2 n=true then l2 else []).length d2],.bool (shiftOk l0 l1 l2 n)])∧
  PRd w' B0 d0 (if shiftOk l0 l1 l2 n=true then l0 else []) B1 d1 (if shiftOk l0 l1 l2 n=true then l1.drop n.toNat++l1.take n.toNat else []) B2 d2 (if shiftOk l0 l1 l2 n=true then l2 else [])∧Below w.heap.size w w':=by
 refine (spec_ProgShift.calls 10500000 A0 c0 l0 A1 c1 l1 A2 c2 l2 n _ _ _ _ w ha.r0 ha.h0 ha.r1 ha.h1 ha.r2 ha.h2 (shift_f H n 10500000 (by omega))).mono ?_;rintro e w' ⟨v0,v1,v2,rfl,r0,r1,r2,hb⟩;obtain ⟨B0,d0,B1,d1,B2,d2,rfl,rfl,rfl,hr⟩:=PRd_of_SRS r0 r1 r2;exact ⟨B0,d0,B1,d1,B2,d2,rfl,hr,hb⟩
theorem shift_short {l0:List S65} {l1:List ByteArray} {l2:List S63} (H:CapP 1048576 l0 l1 l2) (n:Int):Short (if shiftOk l0 l1 l2 n=true then l0 else []) (if shiftOk l0 l1 l2 n=true then l1.drop n.toNat++l1.take n.toNat else []) (if shiftOk l0 l1 l2 n=true then l2 else []):=by
 cases h:shiftOk l0 l1 l2 n with
 | true=>
  simp only [if_true];obtain ⟨a,b,c,d,e⟩:=short_of H;exact ⟨a,by rw [List.length_append,List.length_drop,List.length_take];omega,c,d,e⟩
 | false=>simp only [Bool.false_eq_true,if_false];exact short_nil
end Go.Proofs.YtbahacapnaohcaaGreatDoor.PB
