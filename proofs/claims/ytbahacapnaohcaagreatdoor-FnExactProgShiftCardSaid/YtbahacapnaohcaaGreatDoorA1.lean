import Derived.Test.YtbahacapnaohcaaGreatDoorProg
import Derived.Test.YtbahacapnaohcaaGreatDoorA0
set_option linter.unusedVariables false
set_option linter.unusedSimpArgs false
namespace Go.Proofs.YtbahacapnaohcaaGreatDoor.PB
open Go.RowKit Go.Proofs.YtbahacapnaohcaaGreatDoorW.PrintWords Go.Proofs.YtbahacapnaohcaaGreatDoorW.PrintLast Go.Proofs.YtbahacapnaohcaaGreatDoorW.PrintMore
theorem info4:(Tryz.prog.info? 4).map (fun i=>(i.zero,i.size,i.bytes))=some (some (.bool false),1,1):=by kernel_rfl
theorem info9:(Tryz.prog.info? 9).map (fun i=>(i.zero,i.size,i.bytes))=some (some (.string ⟨#[]⟩),1,16):=by kernel_rfl
theorem info63:(Tryz.prog.info? 63).map (fun i=>(i.zero,i.size,i.bytes))=some (some (.agg #[(.int .i64 0),(.slice none 0 0),(.slice none 0 0)]),3,56):=by kernel_rfl
theorem info65:(Tryz.prog.info? 65).map (fun i=>(i.zero,i.size,i.bytes))=some (some (.agg #[(.string ⟨#[]⟩),(.slice none 0 0),(.slice none 0 0)]),3,64):=by kernel_rfl
theorem info102:(Tryz.prog.info? 102).map (fun i=>(i.zero,i.size,i.bytes))=some (some (.agg #[(.int .i64 0),(.int .i64 0),(.string ⟨#[]⟩)]),3,32):=by kernel_rfl
theorem info174:(Tryz.prog.info? 174).map (fun i=>(i.zero,i.size,i.bytes))=some (some (.slice none 0 0),1,24):=by kernel_rfl
structure S102 where
 f0:Int
 f1:Int
 f2:ByteArray
def z102:S102:=⟨(0:Int),(0:Int),(⟨#[]⟩:ByteArray)⟩
def k102:Kd S102:=Kd.iso (Kd.pair (Kd.int .i64) (Kd.pair (Kd.int .i64) Kd.string)) (fun x:S102=>(x.f0,x.f1,x.f2))
theorem k102_open {w:World} {x:S102} {cs:List Value} (h:k102.K w x cs):cs=[.int .i64 x.f0,.int .i64 x.f1,.string x.f2]:=by
 obtain ⟨_,_,rfl,rfl,⟨_,_,rfl,rfl,rfl⟩⟩:=h;exact rfl
theorem k102_openM {w:World} {base:Nat} {ok:Nat→Prop} {x:S102} {cs:List Value} (h:k102.M w base ok x cs):cs=[.int .i64 x.f0,.int .i64 x.f1,.string x.f2]:=by
 obtain ⟨_,_,rfl,rfl,⟨_,_,rfl,rfl,rfl⟩⟩:=h;exact rfl
theorem k102_mkM (w:World) (base:Nat) (ok:Nat→Prop) (x:S102)  : k102.M w base ok x [.int .i64 x.f0,.int .i64 x.f1,.string x.f2]:=⟨[.int .i64 x.f0],[.int .i64 x.f1,.string x.f2],rfl,rfl,⟨[.int .i64 x.f1],[.string x.f2],rfl,rfl,rfl⟩⟩
def rd_T102 (xs:List S102) (i:Int):S102:=xs.getD i.toNat z102
theorem at_T102 {w:World} {A:Option Addr} {n:Nat} {xs:List S102} (h:Kd.C k102 w A n xs) (i:Int) (h0:0≤i) (h1:i<n):∃ ad ,A=some ad∧w.cell? (ad.add (i.toNat * 3))=some (.int .i64 (rd_T102 xs i).f0)∧w.cell? ⟨(ad.add (i.toNat * 3)).block,(ad.add (i.toNat * 3)).off+1,none⟩=some (.int .i64 (rd_T102 xs i).f1)∧w.cell? ⟨(ad.add (i.toNat * 3)).block,(ad.add (i.toNat * 3)).off+2,none⟩=some (.string (rd_T102 xs i).f2):=by
 obtain ⟨ad,c,e,_,hK,hc0⟩:=Kd.C_get h z102 i h0 h1;have hc:∀ j u,c[j]?=some u→w.cell? (ad.add (i.toNat * 3+j))=some u:=hc0;obtain rfl:=k102_open hK;exact ⟨ad,e,hc 0 _ rfl,by rw [← add_field _ _ 1 (by omega)];exact hc 1 _ rfl,by rw [← add_field _ _ 2 (by omega)];exact hc 2 _ rfl⟩
structure S25 where
 f0:(List S102)
def z25:S25:=⟨([]:List S102)⟩
def k25:Kd S25:=Kd.iso (Kd.slice 102 k102) (fun x:S25=>x.f0)
theorem k25_open {w:World} {x:S25} {cs:List Value} (h:k25.K w x cs):∃ A0 c0,cs=[.slice A0 x.f0.length c0]∧x.f0.length≤c0∧k102.C w A0 x.f0.length x.f0:=by
 obtain ⟨A0,c0,rfl,l0,g0⟩:=h;exact ⟨A0,c0,rfl,l0,g0⟩
theorem k25_mkM (w:World) (base:Nat) (ok:Nat→Prop) (x:S25) {v0:Value} (g0:k102.R 102 w base ok v0 x.f0):k25.M w base ok x [v0]:=⟨v0,rfl,g0⟩
structure S65 where
 f0:ByteArray
 f1:(List ByteArray)
 f2:S25
def z65:S65:=⟨(⟨#[]⟩:ByteArray),([]:List ByteArray),z25⟩
def k65:Kd S65:=Kd.iso (Kd.pair Kd.string (Kd.pair (Kd.slice 9 Kd.string) k25)) (fun x:S65=>(x.f0,x.f1,x.f2))
theorem k65_open {w:World} {x:S65} {cs:List Value} (h:k65.K w x cs):∃ A1 c1 A2 c2,cs=[.string x.f0,.slice A1 x.f1.length c1,.slice A2 x.f2.f0.length c2]∧x.f1.length≤c1∧Kd.string.C w A1 x.f1.length x.f1∧x.f2.f0.length≤c2∧k102.C w A2 x.f2.f0.length x.f2.f0:=by
 obtain ⟨_,_,rfl,rfl,⟨_,_,rfl,⟨A1,c1,rfl,l1,g1⟩,s2⟩⟩:=h;obtain ⟨A2,c2,rfl,l2,g2⟩:=k25_open s2;exact ⟨A1,c1,A2,c2,rfl,l1,g1,l2,g2⟩
theorem k65_mkM (w:World) (base:Nat) (ok:Nat→Prop) (x:S65) {v1:Value} (g1:Kd.string.R 9 w base ok v1 x.f1) {v2:Value} (g2:k102.R 102 w base ok v2 x.f2.f0):k65.M w base ok x [.string x.f0,v1,v2]:=⟨[.string x.f0],[v1,v2],rfl,rfl,⟨[v1],[v2],rfl,⟨v1,rfl,g1⟩,(k25_mkM w base ok x.f2 g2)⟩⟩
def rd_T65 (xs:List S65) (i:Int):S65:=xs.getD i.toNat z65
theorem at_T65 {w:World} {A:Option Addr} {n:Nat} {xs:List S65} (h:Kd.C k65 w A n xs) (i:Int) (h0:0≤i) (h1:i<n):∃ ad A1 c1 A2 c2,A=some ad∧w.cell? (ad.add (i.toNat * 3))=some (.string (rd_T65 xs i).f0)∧w.cell? ⟨(ad.add (i.toNat * 3)).block,(ad.add (i.toNat * 3)).off+1,none⟩=some (.slice A1 (rd_T65 xs i).f1.length c1)∧w.cell? ⟨(ad.add (i.toNat * 3)).block,(ad.add (i.toNat * 3)).off+2,none⟩=some (.slice A2 (rd_T65 xs i).f2.f0.length c2)∧(rd_T65 xs i).f1.length≤c1∧Kd.string.C w A1 (rd_T65 xs i).f1.length (rd_T65 xs i).f1∧(rd_T65 xs i).f2.f0.length≤c2∧k102.C w A2 (rd_T65 xs i).f2.f0.length (rd_T65 xs i).f2.f0:=by
 obtain ⟨ad,c,e,_,hK,hc0⟩:=Kd.C_get h z65 i h0 h1;have hc:∀ j u,c[j]?=some u→w.cell? (ad.add (i.toNat * 3+j))=some u:=hc0;obtain ⟨A1,c1,A2,c2,rfl,l1,g1,l2,g2⟩:=k65_open hK;exact ⟨ad,A1,c1,A2,c2,e,hc 0 _ rfl,by rw [← add_field _ _ 1 (by omega)];exact hc 1 _ rfl,by rw [← add_field _ _ 2 (by omega)];exact hc 2 _ rfl,l1,g1,l2,g2⟩
structure S63 where
 f0:Int
 f1:S25
 f2:S25
def z63:S63:=⟨(0:Int),z25,z25⟩
def k63:Kd S63:=Kd.iso (Kd.pair (Kd.int .i64) (Kd.pair k25 k25)) (fun x:S63=>(x.f0,x.f1,x.f2))
theorem k63_open {w:World} {x:S63} {cs:List Value} (h:k63.K w x cs):∃ A1 c1 A2 c2,cs=[.int .i64 x.f0,.slice A1 x.f1.f0.length c1,.slice A2 x.f2.f0.length c2]∧x.f1.f0.length≤c1∧k102.C w A1 x.f1.f0.length x.f1.f0∧x.f2.f0.length≤c2∧k102.C w A2 x.f2.f0.length x.f2.f0:=by
 obtain ⟨_,_,rfl,rfl,⟨_,_,rfl,s1,s2⟩⟩:=h;obtain ⟨A1,c1,rfl,l1,g1⟩:=k25_open s1;obtain ⟨A2,c2,rfl,l2,g2⟩:=k25_open s2;exact ⟨A1,c1,A2,c2,rfl,l1,g1,l2,g2⟩
theorem k63_mkM (w:World) (base:Nat) (ok:Nat→Prop) (x:S63) {v1:Value} (g1:k102.R 102 w base ok v1 x.f1.f0) {v2:Value} (g2:k102.R 102 w base ok v2 x.f2.f0):k63.M w base ok x [.int .i64 x.f0,v1,v2]:=⟨[.int .i64 x.f0],[v1,v2],rfl,rfl,⟨[v1],[v2],rfl,(k25_mkM w base ok x.f1 g1),(k25_mkM w base ok x.f2 g2)⟩⟩
def rd_T63 (xs:List S63) (i:Int):S63:=xs.getD i.toNat z63
theorem at_T63 {w:World} {A:Option Addr} {n:Nat} {xs:List S63} (h:Kd.C k63 w A n xs) (i:Int) (h0:0≤i) (h1:i<n):∃ ad A1 c1 A2 c2,A=some ad∧w.cell? (ad.add (i.toNat * 3))=some (.int .i64 (rd_T63 xs i).f0)∧w.cell? ⟨(ad.add (i.toNat * 3)).block,(ad.add (i.toNat * 3)).off+1,none⟩=some (.slice A1 (rd_T63 xs i).f1.f0.length c1)∧w.cell? ⟨(ad.add (i.toNat * 3)).block,(ad.add (i.toNat * 3)).off+2,none⟩=some (.slice A2 (rd_T63 xs i).f2.f0.length c2)∧(rd_T63 xs i).f1.f0.length≤c1∧k102.C w A1 (rd_T63 xs i).f1.f0.length (rd_T63 xs i).f1.f0∧(rd_T63 xs i).f2.f0.length≤c2∧k102.C w A2 (rd_T63 xs i).f2.f0.length (rd_T63 xs i).f2.f0:=by
 obtain ⟨ad,c,e,_,hK,hc0⟩:=Kd.C_get h z63 i h0 h1;have hc:∀ j u,c[j]?=some u→w.cell? (ad.add (i.toNat * 3+j))=some u:=hc0;obtain ⟨A1,c1,A2,c2,rfl,l1,g1,l2,g2⟩:=k63_open hK;exact ⟨ad,A1,c1,A2,c2,e,hc 0 _ rfl,by rw [← add_field _ _ 1 (by omega)];exact hc 1 _ rfl,by rw [← add_field _ _ 2 (by omega)];exact hc 2 _ rfl,l1,g1,l2,g2⟩
def rd_L9 (xs:List (List Bool)) (i:Int):(List Bool):=xs.getD i.toNat ([]:List Bool)
theorem at_L9 {w:World} {A:Option Addr} {n:Nat} {xs:List (List Bool)} (h:Kd.C (Kd.slice 4 Kd.bool) w A n xs) (i:Int) (h0:0≤i) (h1:i<n):∃ ad A0 c0,A=some ad∧w.cell? (ad.add i.toNat)=some (.slice A0 (rd_L9 xs i).length c0)∧(rd_L9 xs i).length≤c0∧Kd.bool.C w A0 (rd_L9 xs i).length (rd_L9 xs i):=by
 obtain ⟨ad,c,e,_,hK,hc0⟩:=Kd.C_get h ([]:List Bool) i h0 h1;have hc:∀ j u,c[j]?=some u→w.cell? (ad.add (i.toNat * 1+j))=some u:=hc0;obtain ⟨A0,c0,rfl,l0,g0⟩:=hK;exact ⟨ad,A0,c0,e,by have hq:=hc 0 _ rfl;rwa [Nat.mul_one,Nat.add_zero] at hq,l0,g0⟩
structure S338 where
 f0:Int
 f1:Int
 f2:ByteArray
def z338:S338:=⟨(0:Int),(0:Int),(⟨#[]⟩:ByteArray)⟩
def k338:Kd S338:=Kd.iso (Kd.pair (Kd.int .i64) (Kd.pair (Kd.int .i64) Kd.string)) (fun x:S338=>(x.f0,x.f1,x.f2))
theorem k338_open {w:World} {x:S338} {cs:List Value} (h:k338.K w x cs):cs=[.int .i64 x.f0,.int .i64 x.f1,.string x.f2]:=by
 obtain ⟨_,_,rfl,rfl,⟨_,_,rfl,rfl,rfl⟩⟩:=h;exact rfl
def rd_T338 (xs:List S338) (i:Int):S338:=xs.getD i.toNat z338
theorem at_T338 {w:World} {A:Option Addr} {n:Nat} {xs:List S338} (h:Kd.C k338 w A n xs) (i:Int) (h0:0≤i) (h1:i<n):∃ ad ,A=some ad∧w.cell? (ad.add (i.toNat * 3))=some (.int .i64 (rd_T338 xs i).f0)∧w.cell? ⟨(ad.add (i.toNat * 3)).block,(ad.add (i.toNat * 3)).off+1,none⟩=some (.int .i64 (rd_T338 xs i).f1)∧w.cell? ⟨(ad.add (i.toNat * 3)).block,(ad.add (i.toNat * 3)).off+2,none⟩=some (.string (rd_T338 xs i).f2):=by
 obtain ⟨ad,c,e,_,hK,hc0⟩:=Kd.C_get h z338 i h0 h1;have hc:∀ j u,c[j]?=some u→w.cell? (ad.add (i.toNat * 3+j))=some u:=hc0;obtain rfl:=k338_open hK;exact ⟨ad,e,hc 0 _ rfl,by rw [← add_field _ _ 1 (by omega)];exact hc 1 _ rfl,by rw [← add_field _ _ 2 (by omega)];exact hc 2 _ rfl⟩
structure S230 where
 f0:(List S338)
def z230:S230:=⟨([]:List S338)⟩
def k230:Kd S230:=Kd.iso (Kd.slice 338 k338) (fun x:S230=>x.f0)
theorem k230_open {w:World} {x:S230} {cs:List Value} (h:k230.K w x cs):∃ A0 c0,cs=[.slice A0 x.f0.length c0]∧x.f0.length≤c0∧k338.C w A0 x.f0.length x.f0:=by
 obtain ⟨A0,c0,rfl,l0,g0⟩:=h;exact ⟨A0,c0,rfl,l0,g0⟩
structure S232 where
 f0:ByteArray
 f1:(List ByteArray)
 f2:S230
def z232:S232:=⟨(⟨#[]⟩:ByteArray),([]:List ByteArray),z230⟩
def k232:Kd S232:=Kd.iso (Kd.pair Kd.string (Kd.pair (Kd.slice 9 Kd.string) k230)) (fun x:S232=>(x.f0,x.f1,x.f2))
theorem k232_open {w:World} {x:S232} {cs:List Value} (h:k232.K w x cs):∃ A1 c1 A2 c2,cs=[.string x.f0,.slice A1 x.f1.length c1,.slice A2 x.f2.f0.length c2]∧x.f1.length≤c1∧Kd.string.C w A1 x.f1.length x.f1∧x.f2.f0.length≤c2∧k338.C w A2 x.f2.f0.length x.f2.f0:=by
 obtain ⟨_,_,rfl,rfl,⟨_,_,rfl,⟨A1,c1,rfl,l1,g1⟩,s2⟩⟩:=h;obtain ⟨A2,c2,rfl,l2,g2⟩:=k230_open s2;exact ⟨A1,c1,A2,c2,rfl,l1,g1,l2,g2⟩
def rd_T232 (xs:List S232) (i:Int):S232:=xs.getD i.toNat z232
theorem at_T232 {w:World} {A:Option Addr} {n:Nat} {xs:List S232} (h:Kd.C k232 w A n xs) (i:Int) (h0:0≤i) (h1:i<n):∃ ad A1 c1 A2 c2,A=some ad∧w.cell? (ad.add (i.toNat * 3))=some (.string (rd_T232 xs i).f0)∧w.cell? ⟨(ad.add (i.toNat * 3)).block,(ad.add (i.toNat * 3)).off+1,none⟩=some (.slice A1 (rd_T232 xs i).f1.length c1)∧w.cell? ⟨(ad.add (i.toNat * 3)).block,(ad.add (i.toNat * 3)).off+2,none⟩=some (.slice A2 (rd_T232 xs i).f2.f0.length c2)∧(rd_T232 xs i).f1.length≤c1∧Kd.string.C w A1 (rd_T232 xs i).f1.length (rd_T232 xs i).f1∧(rd_T232 xs i).f2.f0.length≤c2∧k338.C w A2 (rd_T232 xs i).f2.f0.length (rd_T232 xs i).f2.f0:=by
 obtain ⟨ad,c,e,_,hK,hc0⟩:=Kd.C_get h z232 i h0 h1;have hc:∀ j u,c[j]?=some u→w.cell? (ad.add (i.toNat * 3+j))=some u:=hc0;obtain ⟨A1,c1,A2,c2,rfl,l1,g1,l2,g2⟩:=k232_open hK;exact ⟨ad,A1,c1,A2,c2,e,hc 0 _ rfl,by rw [← add_field _ _ 1 (by omega)];exact hc 1 _ rfl,by rw [← add_field _ _ 2 (by omega)];exact hc 2 _ rfl,l1,g1,l2,g2⟩
structure S235 where
 f0:Int
 f1:S230
 f2:S230
def z235:S235:=⟨(0:Int),z230,z230⟩
def k235:Kd S235:=Kd.iso (Kd.pair (Kd.int .i64) (Kd.pair k230 k230)) (fun x:S235=>(x.f0,x.f1,x.f2))
theorem k235_open {w:World} {x:S235} {cs:List Value} (h:k235.K w x cs):∃ A1 c1 A2 c2,cs=[.int .i64 x.f0,.slice A1 x.f1.f0.length c1,.slice A2 x.f2.f0.length c2]∧x.f1.f0.length≤c1∧k338.C w A1 x.f1.f0.length x.f1.f0∧x.f2.f0.length≤c2∧k338.C w A2 x.f2.f0.length x.f2.f0:=by
 obtain ⟨_,_,rfl,rfl,⟨_,_,rfl,s1,s2⟩⟩:=h;obtain ⟨A1,c1,rfl,l1,g1⟩:=k230_open s1;obtain ⟨A2,c2,rfl,l2,g2⟩:=k230_open s2;exact ⟨A1,c1,A2,c2,rfl,l1,g1,l2,g2⟩
def rd_T235 (xs:List S235) (i:Int):S235:=xs.getD i.toNat z235
theorem at_T235 {w:World} {A:Option Addr} {n:Nat} {xs:List S235} (h:Kd.C k235 w A n xs) (i:Int) (h0:0≤i) (h1:i<n):∃ ad A1 c1 A2 c2,A=some ad∧w.cell? (ad.add (i.toNat * 3))=some (.int .i64 (rd_T235 xs i).f0)∧w.cell? ⟨(ad.add (i.toNat * 3)).block,(ad.add (i.toNat * 3)).off+1,none⟩=some (.slice A1 (rd_T235 xs i).f1.f0.length c1)∧w.cell? ⟨(ad.add (i.toNat * 3)).block,(ad.add (i.toNat * 3)).off+2,none⟩=some (.slice A2 (rd_T235 xs i).f2.f0.length c2)∧(rd_T235 xs i).f1.f0.length≤c1∧k338.C w A1 (rd_T235 xs i).f1.f0.length (rd_T235 xs i).f1.f0∧(rd_T235 xs i).f2.f0.length≤c2∧k338.C w A2 (rd_T235 xs i).f2.f0.length (rd_T235 xs i).f2.f0:=by
 obtain ⟨ad,c,e,_,hK,hc0⟩:=Kd.C_get h z235 i h0 h1;have hc:∀ j u,c[j]?=some u→w.cell? (ad.add (i.toNat * 3+j))=some u:=hc0;obtain ⟨A1,c1,A2,c2,rfl,l1,g1,l2,g2⟩:=k235_open hK;exact ⟨ad,A1,c1,A2,c2,e,hc 0 _ rfl,by rw [← add_field _ _ 1 (by omega)];exact hc 1 _ rfl,by rw [← add_field _ _ 2 (by omega)];exact hc 2 _ rfl,l1,g1,l2,g2⟩
theorem aT102 {w:World} {A:Option Addr} {n:Nat} {xs:List S102} (h:Kd.C k102 w A n xs) (i:Int) (h0:0≤i:=by exact od) (h1:i<n:=by exact od):(0≤i)=True∧(i<(n:Int))=True∧∃ ad,A=some ad∧w.cell? (ad.add (i.toNat * 3))=some (.int .i64 (rd_T102 xs i).f0)∧w.cell? ⟨(ad.add (i.toNat * 3)).block,(ad.add (i.toNat * 3)).off+1,none⟩=some (.int .i64 (rd_T102 xs i).f1)∧w.cell? ⟨(ad.add (i.toNat * 3)).block,(ad.add (i.toNat * 3)).off+2,none⟩=some (.string (rd_T102 xs i).f2):=by
 obtain ⟨ad,z0,z1,z2,z3⟩:=at_T102 h i h0 h1;exact ⟨eq_true h0,eq_true h1,ad,z0,z1,z2,z3⟩
theorem aT65 {w:World} {A:Option Addr} {n:Nat} {xs:List S65} (h:Kd.C k65 w A n xs) (i:Int) (h0:0≤i:=by exact od) (h1:i<n:=by exact od):(0≤i)=True∧(i<(n:Int))=True∧∃ ad A1 c1 A2 c2,A=some ad∧w.cell? (ad.add (i.toNat * 3))=some (.string (rd_T65 xs i).f0)∧w.cell? ⟨(ad.add (i.toNat * 3)).block,(ad.add (i.toNat * 3)).off+1,none⟩=some (.slice A1 (rd_T65 xs i).f1.length c1)∧w.cell? ⟨(ad.add (i.toNat * 3)).block,(ad.add (i.toNat * 3)).off+2,none⟩=some (.slice A2 (rd_T65 xs i).f2.f0.length c2)∧Aside0 ((rd_T65 xs i).f1.length≤c1)∧Aside0 (Kd.string.C w A1 (rd_T65 xs i).f1.length (rd_T65 xs i).f1)∧Aside0 ((rd_T65 xs i).f2.f0.length≤c2)∧Aside0 (k102.C w A2 (rd_T65 xs i).f2.f0.length (rd_T65 xs i).f2.f0):=by
 obtain ⟨ad,A1,c1,A2,c2,z0,z1,z2,z3,z4,z5,z6,z7⟩:=at_T65 h i h0 h1;exact ⟨eq_true h0,eq_true h1,ad,A1,c1,A2,c2,z0,z1,z2,z3,⟨z4⟩,⟨z5⟩,⟨z6⟩,⟨z7⟩⟩
theorem aT63 {w:World} {A:Option Addr} {n:Nat} {xs:List S63} (h:Kd.C k63 w A n xs) (i:Int) (h0:0≤i:=by exact od) (h1:i<n:=by exact od):(0≤i)=True∧(i<(n:Int))=True∧∃ ad A1 c1 A2 c2,A=some ad∧w.cell? (ad.add (i.toNat * 3))=some (.int .i64 (rd_T63 xs i).f0)∧w.cell? ⟨(ad.add (i.toNat * 3)).block,(ad.add (i.toNat * 3)).off+1,none⟩=some (.slice A1 (rd_T63 xs i).f1.f0.length c1)∧w.cell? ⟨(ad.add (i.toNat * 3)).block,(ad.add (i.toNat * 3)).off+2,none⟩=some (.slice A2 (rd_T63 xs i).f2.f0.length c2)∧Aside0 ((rd_T63 xs i).f1.f0.length≤c1)∧Aside0 (k102.C w A1 (rd_T63 xs i).f1.f0.length (rd_T63 xs i).f1.f0)∧Aside0 ((rd_T63 xs i).f2.f0.length≤c2)∧Aside0 (k102.C w A2 (rd_T63 xs i).f2.f0.length (rd_T63 xs i).f2.f0):=by
 obtain ⟨ad,A1,c1,A2,c2,z0,z1,z2,z3,z4,z5,z6,z7⟩:=at_T63 h i h0 h1;exact ⟨eq_true h0,eq_true h1,ad,A1,c1,A2,c2,z0,z1,z2,z3,⟨z4⟩,⟨z5⟩,⟨z6⟩,⟨z7⟩⟩
theorem aL9 {w:World} {A:Option Addr} {n:Nat} {xs:List (List Bool)} (h:Kd.C (Kd.slice 4 Kd.bool) w A n xs) (i:Int) (h0:0≤i:=by exact od) (h1:i<n:=by exact od):(0≤i)=True∧(i<(n:Int))=True∧∃ ad A0 c0,A=some ad∧w.cell? (ad.add i.toNat)=some (.slice A0 (rd_L9 xs i).length c0)∧Aside0 ((rd_L9 xs i).length≤c0)∧Aside0 (Kd.bool.C w A0 (rd_L9 xs i).length (rd_L9 xs i)):=by
 obtain ⟨ad,A0,c0,z0,z1,z2,z3⟩:=at_L9 h i h0 h1;exact ⟨eq_true h0,eq_true h1,ad,A0,c0,z0,z1,⟨z2⟩,⟨z3⟩⟩
theorem aT338 {w:World} {A:Option Addr} {n:Nat} {xs:List S338} (h:Kd.C k338 w A n xs) (i:Int) (h0:0≤i:=by exact od) (h1:i<n:=by exact od):(0≤i)=True∧(i<(n:Int))=True∧∃ ad,A=some ad∧w.cell? (ad.add (i.toNat * 3))=some (.int .i64 (rd_T338 xs i).f0)∧w.cell? ⟨(ad.add (i.toNat * 3)).block,(ad.add (i.toNat * 3)).off+1,none⟩=some (.int .i64 (rd_T338 xs i).f1)∧w.cell? ⟨(ad.add (i.toNat * 3)).block,(ad.add (i.toNat * 3)).off+2,none⟩=some (.string (rd_T338 xs i).f2):=by
 obtain ⟨ad,z0,z1,z2,z3⟩:=at_T338 h i h0 h1;exact ⟨eq_true h0,eq_true h1,ad,z0,z1,z2,z3⟩
theorem aT232 {w:World} {A:Option Addr} {n:Nat} {xs:List S232} (h:Kd.C k232 w A n xs) (i:Int) (h0:0≤i:=by exact od) (h1:i<n:=by exact od):(0≤i)=True∧(i<(n:Int))=True∧∃ ad A1 c1 A2 c2,A=some ad∧w.cell? (ad.add (i.toNat * 3))=some (.string (rd_T232 xs i).f0)∧w.cell? ⟨(ad.add (i.toNat * 3)).block,(ad.add (i.toNat * 3)).off+1,none⟩=some (.slice A1 (rd_T232 xs i).f1.length c1)∧w.cell? ⟨(ad.add (i.toNat * 3)).block,(ad.add (i.toNat * 3)).off+2,none⟩=some (.slice A2 (rd_T232 xs i).f2.f0.length c2)∧Aside0 ((rd_T232 xs i).f1.length≤c1)∧Aside0 (Kd.string.C w A1 (rd_T232 xs i).f1.length (rd_T232 xs i).f1)∧Aside0 ((rd_T232 xs i).f2.f0.length≤c2)∧Aside0 (k338.C w A2 (rd_T232 xs i).f2.f0.length (rd_T232 xs i).f2.f0):=by
 obtain ⟨ad,A1,c1,A2,c2,z0,z1,z2,z3,z4,z5,z6,z7⟩:=at_T232 h i h0 h1;exact ⟨eq_true h0,eq_true h1,ad,A1,c1,A2,c2,z0,z1,z2,z3,⟨z4⟩,⟨z5⟩,⟨z6⟩,⟨z7⟩⟩
theorem aT235 {w:World} {A:Option Addr} {n:Nat} {xs:List S235} (h:Kd.C k235 w A n xs) (i:Int) (h0:0≤i:=by exact od) (h1:i<n:=by exact od):(0≤i)=True∧(i<(n:Int))=True∧∃ ad A1 c1 A2 c2,A=some ad∧w.cell? (ad.add (i.toNat * 3))=some (.int .i64 (rd_T235 xs i).f0)∧w.cell? ⟨(ad.add (i.toNat * 3)).block,(ad.add (i.toNat * 3)).off+1,none⟩=some (.slice A1 (rd_T235 xs i).f1.f0.length c1)∧w.cell? ⟨(ad.add (i.toNat * 3)).block,(ad.add (i.toNat * 3)).off+2,none⟩=some (.slice A2 (rd_T235 xs i).f2.f0.length c2)∧Aside0 ((rd_T235 xs i).f1.f0.length≤c1)∧Aside0 (k338.C w A1 (rd_T235 xs i).f1.f0.length (rd_T235 xs i).f1.f0)∧Aside0 ((rd_T235 xs i).f2.f0.length≤c2)∧Aside0 (k338.C w A2 (rd_T235 xs i).f2.f0.length (rd_T235 xs i).f2.f0):=by
 obtain ⟨ad,A1,c1,A2,c2,z0,z1,z2,z3,z4,z5,z6,z7⟩:=at_T235 h i h0 h1;exact ⟨eq_true h0,eq_true h1,ad,A1,c1,A2,c2,z0,z1,z2,z3,⟨z4⟩,⟨z5⟩,⟨z6⟩,⟨z7⟩⟩
def spec_l12Find.l0:Nat→List ByteArray→ByteArray→Int→Option (Int)
 | 0,_,_,_=>none
 | k+1,x0,x1,x5=>if x5<(x0.length:Int) then (if 0≤x5 then (if (rdOf ByteArray.empty x0 x5).toList=x1.toList then (some x5) else (spec_l12Find.l0 k x0 x1 (wrap64 (x5+1)))) else (none)) else (some (-1))
def spec_l12Find.f (k:Nat) (l0:List ByteArray) (a1:ByteArray):Option (Int):=spec_l12Find.l0 k l0 a1 0
set_option maxHeartbeats 8000000 in
set_option maxRecDepth 100000 in
theorem spec_l12Find.calls (k:Nat) (A0:Option Addr) (c0:Nat) (l0:List ByteArray) (a1:ByteArray) (r:Int) (w:World) (hr0:Kd.C Kd.string w A0 l0.length l0) (hc0:l0.length≤c0) (h:spec_l12Find.f k l0 a1=some r) :
 Calls Tryz.prog 82 #[.slice A0 l0.length c0,.string a1] w fun e w'=>e=.returned (.int .i64 r)∧Drawn0 w w':=by
 obtain ⟨HR0,HC0⟩:=hd2 hr0 hc0;clear hr0 hc0;have H:(spec_l12Find.l0 k l0 a1 0)=some r:=h;clear h;have H':=am H;clear H;go_enter Tryz.func82,Tryz.ntmps82;go_wp2
 go_loopg [5] k (fun kq v5 w'=>∃ (x5_1:Int),v5=.int .i64 x5_1∧Aside0 (spec_l12Find.l0 kq l0 a1 x5_1=some r)∧Aside0 (kq≤k)∧Drawn0 w w')
 case atStart=>exact ⟨(0),xa,H',⟨Nat.le_refl _⟩,by repeat (first|exact Drawn0.refl _|apply Drawn0.step)⟩
 case round=>
  clear H';obtain ⟨x5_1,rfl,HA,HK1,⟨m1,rfl⟩⟩:=hrel
  cases gk with
  | zero=>exact absurd HA.out (by simp [spec_l12Find.l0])
  | succ k1=>
   have H:=HA.out;clear HA;simp only [spec_l12Find.l0] at H;replace H:=ic H;obtain ⟨c3b0,H⟩|⟨c3b0,H⟩:=H
   ·replace H:=ii H;obtain ⟨c4,H⟩|⟨c4,H⟩:=H
    ·have c4b0:=decide_eq_true c4;clear c4;replace H:=ii H;obtain ⟨c5,H⟩|⟨c5,H⟩:=H
     ·have c5b0:((rdOf ByteArray.empty l0 x5_1).toList == a1.toList)=true:=beq_iff_eq.mpr c5;have c5b1:((rdOf ByteArray.empty l0 x5_1).toList != a1.toList)=false:=bne_eq_false_iff_eq.mpr c5;clear c5;obtain rfl:=si H;have p103:0≤(x5_1:Int):=od;have q103:x5_1<(l0.length:Int):=od;obtain ⟨ad103,e103,hx103_0⟩:=Kd.at_string HR0.out x5_1 p103 q103;cases e103;replace p103:=eq_true p103;replace q103:=eq_true q103;go_wp2;go_ret;exact ⟨xa,xd⟩
     ·have c5b0:((rdOf ByteArray.empty l0 x5_1).toList == a1.toList)=false:=beq_eq_false_iff_ne.mpr c5;have c5b1:((rdOf ByteArray.empty l0 x5_1).toList != a1.toList)=true:=bne_iff_ne.mpr c5;have H':=am H;clear H;have p103:0≤(x5_1:Int):=od;have q103:x5_1<(l0.length:Int):=od;obtain ⟨ad103,e103,hx103_0⟩:=Kd.at_string HR0.out x5_1 p103 q103;cases e103;replace p103:=eq_true p103;replace q103:=eq_true q103;go_wp2
      go_roundg k1
      case measure=>have:=HK1.out;omega
      case rel=>exact ⟨(wrap64 (x5_1+1)),xa,H',⟨by have:=HK1.out;omega⟩,by repeat (first|exact Drawn0.refl _|apply Drawn0.step)⟩
    ·exact absurd H (by simp)
   ·obtain rfl:=si H;go_wp2;go_ret;exact ⟨xa,xd⟩
def spec_l13Def.l0:Nat→ByteArray→Int→List (S65)→List ByteArray→List (S63)→Option (Int)
 | 0,_,_,_,_,_=>none
 | k+1,x1,x5,x102000,x102001,x102002=>if x5<(x102000.length:Int) then (if 0≤x5 then (if ((rd_T65 x102000 x5).f0).toList=x1.toList then (some x5) else (spec_l13Def.l0 k x1 (wrap64 (x5+1)) x102000 x102001 x102002)) else (none)) else (some (-1))
def spec_l13Def.f (k:Nat) (l0_0:List (S65)) (l0_1:List ByteArray) (l0_2:List (S63)) (a1:ByteArray):Option (Int):=spec_l13Def.l0 k a1 0 l0_0 l0_1 l0_2
set_option maxHeartbeats 8000000 in
set_option maxRecDepth 100000 in
theorem spec_l13Def.calls (k:Nat) (A0_0:Option Addr) (c0_0:Nat) (l0_0:List (S65)) (A0_1:Option Addr) (c0_1:Nat) (l0_1:List ByteArray) (A0_2:Option Addr) (c0_2:Nat) (l0_2:List (S63)) (a1:ByteArray) (r:Int) (w:World) (hr0_0:Kd.C k65 w A0_0 l0_0.length l0_0) (hc0_0:l0_0.length≤c0_0) (hr0_1:Kd.C Kd.string w A0_1 l0_1.length l0_1) (hc0_1:l0_1.length≤c0_1) (hr0_2:Kd.C k63 w A0_2 l0_2.length l0_2) (hc0_2:l0_2.length≤c0_2) (h:spec_l13Def.f k l0_0 l0_1 l0_2 a1=some r) :
 Calls Tryz.prog 115 #[.agg #[.slice A0_0 l0_0.length c0_0,.slice A0_1 l0_1.length c0_1,.slice A0_2 l0_2.length c0_2],.string a1] w fun e w'=>e=.returned (.int .i64 r)∧Below w.heap.size w w':=by
 have hu38:=Tryz.underlying38;obtain ⟨HR0_0,HC0_0,HR0_1,HC0_1,HR0_2,HC0_2⟩:=hd6 hr0_0 hc0_0 hr0_1 hc0_1 hr0_2 hc0_2;clear hr0_0 hc0_0 hr0_1 hc0_1 hr0_2 hc0_2;have HB:=am (Below.refl w.heap.size w);have H:(spec_l13Def.l0 k a1 0 l0_0 l0_1 l0_2)=some r:=h;clear h;have H':=am H;clear H;go_enter Tryz.func115,Tryz.ntmps115;go_wp2_with (first|(refine bx 2 (#[.slice A0_0 l0_0.length c0_0,.slice A0_1 l0_1.length c0_1,.slice A0_2 l0_2.length c0_2]) 38 ?_;intro gb101 hg w3 hbox hb;have BK101:=am (hbox);have GE101:=am ((by rw [hg];exact (below_size (bl HB.out)):w.heap.size≤gb101));replace HB:=am (below_step (bl HB.out) hb);clear hb hbox hg))
 go_loopg [5] k (fun kq v5 w'=>∃ (x5_1:Int),v5=.int .i64 x5_1∧Aside0 (spec_l13Def.l0 kq a1 x5_1 l0_0 l0_1 l0_2=some r)∧Aside0 (kq≤k)∧Aside0 (w'.heap[gb101]?=some (.cells #[(.slice A0_0 l0_0.length c0_0),(.slice A0_1 l0_1.length c0_1),(.slice A0_2 l0_2.length c0_2)] 38 (0,0)))∧Aside0 (Below w.heap.size w w'))
 case atStart=>exact ⟨(0),xa,H',⟨Nat.le_refl _⟩,⟨bk BK101.out⟩,⟨bs HB.out GE101.out⟩⟩
 case round=>
  clear H';obtain ⟨x5_1,rfl,HA,HK1,BK101,HB⟩:=hrel
  cases gk with
  | zero=>exact absurd HA.out (by simp [spec_l13Def.l0])
  | succ k1=>
   have H:=HA.out;clear HA;simp only [spec_l13Def.l0] at H;replace H:=ic H;obtain ⟨c4b0,H⟩|⟨c4b0,H⟩:=H
   ·replace H:=ii H;obtain ⟨c5,H⟩|⟨c5,H⟩:=H
    ·have c5b0:=decide_eq_true c5;clear c5;replace H:=ii H;obtain ⟨c6,H⟩|⟨c6,H⟩:=H
     ·have c6b0:(((rd_T65 l0_0 x5_1).f0).toList == a1.toList)=true:=beq_iff_eq.mpr c6;have c6b1:(((rd_T65 l0_0 x5_1).f0).toList != a1.toList)=false:=bne_eq_false_iff_eq.mpr c6;clear c6;obtain rfl:=si H;obtain ⟨hcz7_0,hcz7_1,hcz7_2,hfz7_0,hfz7_1,hfz7_2⟩:=f3 BK101.out;obtain ⟨p102,q102,ad102,A102_1,c102_1,A102_2,c102_2,e102,hw102_0,hw102_1,hw102_2,HC102_1,HR102_1,HC102_2,HR102_2⟩:=aT65 HR0_0.out x5_1;cases e102;have hx102_0:=pb HB.out hw102_0;have hx102_1:=pb HB.out hw102_1;have hx102_2:=pb HB.out hw102_2;go_wp2;go_ret;exact ⟨xe,bs HB.out GE101.out⟩
     ·have c6b0:(((rd_T65 l0_0 x5_1).f0).toList == a1.toList)=false:=beq_eq_false_iff_ne.mpr c6;have c6b1:(((rd_T65 l0_0 x5_1).f0).toList != a1.toList)=true:=bne_iff_ne.mpr c6;have H':=am H;clear H;obtain ⟨hcz8_0,hcz8_1,hcz8_2,hfz8_0,hfz8_1,hfz8_2⟩:=f3 BK101.out;obtain ⟨p102,q102,ad102,A102_1,c102_1,A102_2,c102_2,e102,hw102_0,hw102_1,hw102_2,HC102_1,HR102_1,HC102_2,HR102_2⟩:=aT65 HR0_0.out x5_1;cases e102;have hx102_0:=pb HB.out hw102_0;have hx102_1:=pb HB.out hw102_1;have hx102_2:=pb HB.out hw102_2;go_wp2
      go_roundg k1
      case measure=>have:=HK1.out;omega
      case rel=>exact ⟨(wrap64 (x5_1+1)),xa,H',⟨by have:=HK1.out;omega⟩,⟨bk BK101.out⟩,⟨bs HB.out GE101.out⟩⟩
    ·exact absurd H (by simp)
   ·obtain rfl:=si H;obtain ⟨hcz9_0,hcz9_1,hcz9_2,hfz9_0,hfz9_1,hfz9_2⟩:=f3 BK101.out;go_wp2;go_ret;exact ⟨xe,bs HB.out GE101.out⟩
end Go.Proofs.YtbahacapnaohcaaGreatDoor.PB
