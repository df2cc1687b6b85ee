-- Written by wip/pp of this repo (over the kit's print, with additions of this session); Lean checks every line.
import Derived.Test.YthhejedfjgikdaaDoorProg
import Derived.Lib.Hide
import Derived.Lib.BytesEntry
import Derived.Laws.Externs
import Derived.Deep.Heap
import Derived.Deep.RegionLaw
import Derived.Deep.RegionWith
import Derived.Laws.Cover3
import Derived.Lib.LaidTab
import Derived.Lib.LaidU8
import Derived.Lib.LaidU8T
import Derived.Lib.ValidAsc
import Derived.Maps.Own
import Derived.Maps.OwnOps
import Derived.Maps.Views
import Derived.Shelf.Small.Strs
import Derived.Shelf.Unicode.ValidAny
import Derived.Test.YthhejedfjgikdaaDoorOpen
import Derived.Test.YthhejedfjgikdaaDoorShelfV
import Derived.Test.YthhejedfjgikdaaDoorLdRowReads
import Derived.Test.YthhejedfjgikdaaDoorWFour
import Derived.Test.YthhejedfjgikdaaDoorWAt
import Derived.Test.YthhejedfjgikdaaDoorWEqStruct
import Derived.Test.YthhejedfjgikdaaDoorWRepsOne
import Derived.Test.YthhejedfjgikdaaDoorWInvWords
import Derived.Test.YthhejedfjgikdaaDoorWGuard
import Derived.Test.YthhejedfjgikdaaDoorWMore
namespace Go.Proofs.YthhejedfjgikdaaDoor.PRowReads
open Go.RowKit Go.Proofs.YthhejedfjgikdaaDoorW.PrintWords Go.Proofs.YthhejedfjgikdaaDoorW.PrintLast Go.Proofs.YthhejedfjgikdaaDoorW.PrintMore
attribute [local go_sem] zjo zjm zjw zjv zja zq9 zjn zjl   -- for this text's walks alone
set_option linter.unusedVariables false
set_option linter.unusedSimpArgs false



def errW:Option Int→Value
 | none=>.nilIface
 | some c=>.iface 0 (.int .i64 c)
theorem zg:errW none = .nilIface:=rfl
theorem zy (c:Int):errW (some c) = .iface 0 (.int .i64 c):=rfl

theorem zxr:(Tryd.prog.info? 5).map (fun i=>(i.zero,i.size,i.bytes))=some (some (.int .u8 0),1,1):=by kernel_rfl
theorem info9:(Tryd.prog.info? 9).map (fun i=>(i.zero,i.size,i.bytes))=some (some (.string ⟨#[]⟩),1,16):=by kernel_rfl
theorem info32:(Tryd.prog.info? 32).map (fun i=>(i.zero,i.size,i.bytes))=some (some (.agg #[(.slice none 0 0),(.slice none 0 0)]),2,48):=by kernel_rfl
theorem info38:(Tryd.prog.info? 38).map (fun i=>(i.zero,i.size,i.bytes))=some (some (.agg #[(.int .i64 0),(.int .i64 0),(.string ⟨#[]⟩)]),3,32):=by kernel_rfl
theorem info58:(Tryd.prog.info? 58).map (fun i=>(i.zero,i.size,i.bytes))=some (some (.slice none 0 0),1,24):=by kernel_rfl
-- the values' own types
/-! #### struct type 90 -/
structure S90 where
 f0:ByteArray
 f1:Int
 f2:Bool
def z90:S90:=⟨(⟨#[]⟩:ByteArray),(0:Int),false⟩
def k90:Kd S90:=Kd.iso (Kd.pair Kd.string (Kd.pair (Kd.int .i64) Kd.bool)) (fun x:S90=>(x.f0,x.f1,x.f2))
theorem k90_heap:Kd.Heap k90:=Kd.zvg _ (Kd.zxu Kd.zko (Kd.zxu (Kd.zkp .i64) Kd.heap_bool))
theorem k90_open {w:World} {x:S90} {cs:List Value} (h:k90.K w x cs):cs = [.string x.f0,.int .i64 x.f1,.bool x.f2]:=by
 obtain ⟨_,_,rfl,rfl,⟨_,_,rfl,rfl,rfl⟩⟩:=h
 exact rfl
theorem k90_openM {w:World} {base:Nat} {ok:Nat→Prop} {x:S90} {cs:List Value} (h:k90.M w base ok x cs):cs = [.string x.f0,.int .i64 x.f1,.bool x.f2]:=by
 obtain ⟨_,_,rfl,rfl,⟨_,_,rfl,rfl,rfl⟩⟩:=h
 exact rfl
theorem k90_mk (w:World) (x:S90)  : k90.K w x [.string x.f0,.int .i64 x.f1,.bool x.f2]:=⟨[.string x.f0], [.int .i64 x.f1,.bool x.f2],rfl,rfl,⟨[.int .i64 x.f1], [.bool x.f2],rfl,rfl,rfl⟩⟩
theorem k90_mkM (w:World) (base:Nat) (ok:Nat→Prop) (x:S90)  : k90.M w base ok x [.string x.f0,.int .i64 x.f1,.bool x.f2]:=⟨[.string x.f0], [.int .i64 x.f1,.bool x.f2],rfl,rfl,⟨[.int .i64 x.f1], [.bool x.f2],rfl,rfl,rfl⟩⟩
theorem k90_mkF (W:World) (ok:Nat→Prop) (x:S90):Kd.FK k90 W ok x [.string x.f0,.int .i64 x.f1,.bool x.f2]:=fun W2 _=>k90_mk W2 x
def qg (xs:List S90) (i:Int):S90:=xs.getD i.toNat z90
theorem zx1 {w:World} {A:Option Addr} {n:Nat} {xs:List S90} (h:Kd.C k90 w A n xs) (i:Int) (h0:0≤i) (h1:i<n):∃ ad ,A=some ad∧w.cell? (ad.add (i.toNat * 3))=some (.string (qg xs i).f0)∧w.cell? ⟨(ad.add (i.toNat * 3)).block,(ad.add (i.toNat * 3)).off+1,none⟩=some (.int .i64 (qg xs i).f1)∧w.cell? ⟨(ad.add (i.toNat * 3)).block,(ad.add (i.toNat * 3)).off+2,none⟩=some (.bool (qg xs i).f2):=by
 obtain ⟨ad,c,e,_,hK,hc0⟩:=Kd.zvv h z90 i h0 h1
 have hc:∀ j u,c[j]? = some u→w.cell? (ad.add (i.toNat * 3+j))=some u:=hc0
 obtain rfl:=k90_open hK
 exact⟨ad,e,hc 0 _ rfl,by rw [← zj3 _ _ 1 (by omega)];exact hc 1 _ rfl,by rw [← zj3 _ _ 2 (by omega)];exact hc 2 _ rfl⟩

def rd_L4 (xs:List (List Int)) (i:Int):(List Int):=xs.getD i.toNat ([]:List Int)
theorem at_L4 {w:World} {A:Option Addr} {n:Nat} {xs:List (List Int)} (h:Kd.C (Kd.slice 3 (Kd.int .i64)) w A n xs) (i:Int) (h0:0≤i) (h1:i<n):∃ ad A0 c0,A=some ad∧w.cell? (ad.add i.toNat)=some (.slice A0 (rd_L4 xs i).length c0)∧(rd_L4 xs i).length≤c0∧(Kd.int .i64).C w A0 (rd_L4 xs i).length (rd_L4 xs i):=by
 obtain ⟨ad,c,e,_,hK,hc0⟩:=Kd.zvv h ([]:List Int) i h0 h1
 have hc:∀ j u,c[j]? = some u→w.cell? (ad.add (i.toNat * 1+j))=some u:=hc0
 obtain ⟨A0,c0,rfl,l0,g0⟩:=hK
 exact⟨ad,A0,c0,e,by have hq:=hc 0 _ rfl;rwa [Nat.mul_one,Nat.add_zero] at hq,l0,g0⟩

/-! #### struct type 96 -/
structure S96 where
 f0:ByteArray
 f1:(List Int)
def z96:S96:=⟨(⟨#[]⟩:ByteArray),([]:List Int)⟩
def k96:Kd S96:=Kd.iso (Kd.pair Kd.string (Kd.slice 3 (Kd.int .i64))) (fun x:S96=>(x.f0,x.f1))
theorem k96_heap:Kd.Heap k96:=Kd.zvg _ (Kd.zxu Kd.zko (Kd.zkb 3 (Kd.zkp .i64)))
theorem k96_open {w:World} {x:S96} {cs:List Value} (h:k96.K w x cs):∃ A1 c1,cs = [.string x.f0,.slice A1 x.f1.length c1]∧x.f1.length≤c1∧(Kd.int .i64).C w A1 x.f1.length x.f1:=by
 obtain ⟨_,_,rfl,rfl,⟨A1,c1,rfl,l1,g1⟩⟩:=h
 exact⟨A1,c1,rfl,l1,g1⟩
theorem k96_openM {w:World} {base:Nat} {ok:Nat→Prop} {x:S96} {cs:List Value} (h:k96.M w base ok x cs):∃ v1,cs = [.string x.f0,v1]∧(Kd.int .i64).R 3 w base ok v1 x.f1:=by
 obtain ⟨_,_,rfl,rfl,⟨v1,rfl,g1⟩⟩:=h
 exact⟨v1,rfl,g1⟩
theorem k96_mk (w:World) (x:S96) {A1:Option Addr} {c1:Nat} (l1:x.f1.length≤c1) (g1:(Kd.int .i64).C w A1 x.f1.length x.f1):k96.K w x [.string x.f0,.slice A1 x.f1.length c1]:=⟨[.string x.f0], [.slice A1 x.f1.length c1],rfl,rfl,⟨A1,c1,rfl,l1,g1⟩⟩
theorem k96_mkM (w:World) (base:Nat) (ok:Nat→Prop) (x:S96) {v1:Value} (g1:(Kd.int .i64).R 3 w base ok v1 x.f1):k96.M w base ok x [.string x.f0,v1]:=⟨[.string x.f0], [v1],rfl,rfl,⟨v1,rfl,g1⟩⟩
theorem k96_openF {W:World} {ok:Nat→Prop} {x:S96} {cs:List Value} (h:Kd.FK k96 W ok x cs):∃ A1 c1,cs = [.string x.f0,.slice A1 x.f1.length c1]∧x.f1.length≤c1∧Kd.F (Kd.int .i64) W ok A1 x.f1.length x.f1:=by
 obtain ⟨A1,c1,rfl,l1,_⟩:=k96_open (Kd.FK_now h)
 exact⟨A1,c1,rfl,l1,(fun W' hW=>by obtain ⟨A1_,c1_,he,l1_,g1_⟩:=k96_open (h W' hW);injection (Option.some.inj (show some (Value.slice A1 x.f1.length c1)=some (Value.slice A1_ x.f1.length c1_) from congrArg (fun l=>l[1]?) he)) with ha_ _ _;rw [ha_];exact g1_)⟩
theorem k96_mkF (W:World) (ok:Nat→Prop) (x:S96) {A1:Option Addr} {c1:Nat} (l1:x.f1.length≤c1) (g1:Kd.F (Kd.int .i64) W ok A1 x.f1.length x.f1):Kd.FK k96 W ok x [.string x.f0,.slice A1 x.f1.length c1]:=fun W2 hW=>k96_mk W2 x l1 (g1 W2 hW)
def zqi (xs:List S96) (i:Int):S96:=xs.getD i.toNat z96
theorem zvt {w:World} {A:Option Addr} {n:Nat} {xs:List S96} (h:Kd.C k96 w A n xs) (i:Int) (h0:0≤i) (h1:i<n):∃ ad A1 c1,A=some ad∧w.cell? (ad.add (i.toNat * 2))=some (.string (zqi xs i).f0)∧w.cell? ⟨(ad.add (i.toNat * 2)).block,(ad.add (i.toNat * 2)).off+1,none⟩=some (.slice A1 (zqi xs i).f1.length c1)∧(zqi xs i).f1.length≤c1∧(Kd.int .i64).C w A1 (zqi xs i).f1.length (zqi xs i).f1:=by
 obtain ⟨ad,c,e,_,hK,hc0⟩:=Kd.zvv h z96 i h0 h1
 have hc:∀ j u,c[j]? = some u→w.cell? (ad.add (i.toNat * 2+j))=some u:=hc0
 obtain ⟨A1,c1,rfl,l1,g1⟩:=k96_open hK
 exact⟨ad,A1,c1,e,hc 0 _ rfl,by rw [← zj3 _ _ 1 (by omega)];exact hc 1 _ rfl,l1,g1⟩

def rd_L6 (xs:List (List S90)) (i:Int):(List S90):=xs.getD i.toNat ([]:List S90)
theorem at_L6 {w:World} {A:Option Addr} {n:Nat} {xs:List (List S90)} (h:Kd.C (Kd.slice 90 k90) w A n xs) (i:Int) (h0:0≤i) (h1:i<n):∃ ad A0 c0,A=some ad∧w.cell? (ad.add i.toNat)=some (.slice A0 (rd_L6 xs i).length c0)∧(rd_L6 xs i).length≤c0∧k90.C w A0 (rd_L6 xs i).length (rd_L6 xs i):=by
 obtain ⟨ad,c,e,_,hK,hc0⟩:=Kd.zvv h ([]:List S90) i h0 h1
 have hc:∀ j u,c[j]? = some u→w.cell? (ad.add (i.toNat * 1+j))=some u:=hc0
 obtain ⟨A0,c0,rfl,l0,g0⟩:=hK
 exact⟨ad,A0,c0,e,by have hq:=hc 0 _ rfl;rwa [Nat.mul_one,Nat.add_zero] at hq,l0,g0⟩

def rd_L7 (xs:List (List S96)) (i:Int):(List S96):=xs.getD i.toNat ([]:List S96)
theorem at_L7 {w:World} {A:Option Addr} {n:Nat} {xs:List (List S96)} (h:Kd.C (Kd.slice 96 k96) w A n xs) (i:Int) (h0:0≤i) (h1:i<n):∃ ad A0 c0,A=some ad∧w.cell? (ad.add i.toNat)=some (.slice A0 (rd_L7 xs i).length c0)∧(rd_L7 xs i).length≤c0∧k96.C w A0 (rd_L7 xs i).length (rd_L7 xs i):=by
 obtain ⟨ad,c,e,_,hK,hc0⟩:=Kd.zvv h ([]:List S96) i h0 h1
 have hc:∀ j u,c[j]? = some u→w.cell? (ad.add (i.toNat * 1+j))=some u:=hc0
 obtain ⟨A0,c0,rfl,l0,g0⟩:=hK
 exact⟨ad,A0,c0,e,by have hq:=hc 0 _ rfl;rwa [Nat.mul_one,Nat.add_zero] at hq,l0,g0⟩

/-! #### struct type 61 -/
structure S61 where
 f0:ByteArray
 f1:(List S90)
 f2:(List Int)
 f3:(List S96)
def z61:S61:=⟨(⟨#[]⟩:ByteArray),([]:List S90),([]:List Int),([]:List S96)⟩
def k61:Kd S61:=Kd.iso (Kd.pair Kd.string (Kd.pair (Kd.slice 90 k90) (Kd.pair (Kd.slice 3 (Kd.int .i64)) (Kd.slice 96 k96)))) (fun x:S61=>(x.f0,x.f1,x.f2,x.f3))
theorem k61_heap:Kd.Heap k61:=Kd.zvg _ (Kd.zxu Kd.zko (Kd.zxu (Kd.zkb 90 k90_heap) (Kd.zxu (Kd.zkb 3 (Kd.zkp .i64)) (Kd.zkb 96 k96_heap))))
theorem zve {w:World} {x:S61} {cs:List Value} (h:k61.K w x cs):∃ A1 c1 A2 c2 A3 c3,cs = [.string x.f0,.slice A1 x.f1.length c1,.slice A2 x.f2.length c2,.slice A3 x.f3.length c3]∧x.f1.length≤c1∧k90.C w A1 x.f1.length x.f1∧x.f2.length≤c2∧(Kd.int .i64).C w A2 x.f2.length x.f2∧x.f3.length≤c3∧k96.C w A3 x.f3.length x.f3:=by
 obtain ⟨_,_,rfl,rfl,⟨_,_,rfl,⟨A1,c1,rfl,l1,g1⟩,⟨_,_,rfl,⟨A2,c2,rfl,l2,g2⟩,⟨A3,c3,rfl,l3,g3⟩⟩⟩⟩:=h
 exact⟨A1,c1,A2,c2,A3,c3,rfl,l1,g1,l2,g2,l3,g3⟩
theorem k61_openM {w:World} {base:Nat} {ok:Nat→Prop} {x:S61} {cs:List Value} (h:k61.M w base ok x cs):∃ v1 v2 v3,cs = [.string x.f0,v1,v2,v3]∧k90.R 90 w base ok v1 x.f1∧(Kd.int .i64).R 3 w base ok v2 x.f2∧k96.R 96 w base ok v3 x.f3:=by
 obtain ⟨_,_,rfl,rfl,⟨_,_,rfl,⟨v1,rfl,g1⟩,⟨_,_,rfl,⟨v2,rfl,g2⟩,⟨v3,rfl,g3⟩⟩⟩⟩:=h
 exact⟨v1,v2,v3,rfl,g1,g2,g3⟩
theorem k61_mk (w:World) (x:S61) {A1:Option Addr} {c1:Nat} (l1:x.f1.length≤c1) (g1:k90.C w A1 x.f1.length x.f1) {A2:Option Addr} {c2:Nat} (l2:x.f2.length≤c2) (g2:(Kd.int .i64).C w A2 x.f2.length x.f2) {A3:Option Addr} {c3:Nat} (l3:x.f3.length≤c3) (g3:k96.C w A3 x.f3.length x.f3):k61.K w x [.string x.f0,.slice A1 x.f1.length c1,.slice A2 x.f2.length c2,.slice A3 x.f3.length c3]:=⟨[.string x.f0], [.slice A1 x.f1.length c1,.slice A2 x.f2.length c2,.slice A3 x.f3.length c3],rfl,rfl,⟨[.slice A1 x.f1.length c1], [.slice A2 x.f2.length c2,.slice A3 x.f3.length c3],rfl,⟨A1,c1,rfl,l1,g1⟩,⟨[.slice A2 x.f2.length c2], [.slice A3 x.f3.length c3],rfl,⟨A2,c2,rfl,l2,g2⟩,⟨A3,c3,rfl,l3,g3⟩⟩⟩⟩
theorem k61_mkM (w:World) (base:Nat) (ok:Nat→Prop) (x:S61) {v1:Value} (g1:k90.R 90 w base ok v1 x.f1) {v2:Value} (g2:(Kd.int .i64).R 3 w base ok v2 x.f2) {v3:Value} (g3:k96.R 96 w base ok v3 x.f3):k61.M w base ok x [.string x.f0,v1,v2,v3]:=⟨[.string x.f0], [v1,v2,v3],rfl,rfl,⟨[v1], [v2,v3],rfl,⟨v1,rfl,g1⟩,⟨[v2], [v3],rfl,⟨v2,rfl,g2⟩,⟨v3,rfl,g3⟩⟩⟩⟩
theorem k61_openF {W:World} {ok:Nat→Prop} {x:S61} {cs:List Value} (h:Kd.FK k61 W ok x cs):∃ A1 c1 A2 c2 A3 c3,cs = [.string x.f0,.slice A1 x.f1.length c1,.slice A2 x.f2.length c2,.slice A3 x.f3.length c3]∧x.f1.length≤c1∧Kd.F k90 W ok A1 x.f1.length x.f1∧x.f2.length≤c2∧Kd.F (Kd.int .i64) W ok A2 x.f2.length x.f2∧x.f3.length≤c3∧Kd.F k96 W ok A3 x.f3.length x.f3:=by
 obtain ⟨A1,c1,A2,c2,A3,c3,rfl,l1,_,l2,_,l3,_⟩:=zve (Kd.FK_now h)
 exact⟨A1,c1,A2,c2,A3,c3,rfl,l1,(fun W' hW=>by obtain ⟨A1_,c1_,A2_,c2_,A3_,c3_,he,l1_,g1_,l2_,g2_,l3_,g3_⟩:=zve (h W' hW);injection (Option.some.inj (show some (Value.slice A1 x.f1.length c1)=some (Value.slice A1_ x.f1.length c1_) from congrArg (fun l=>l[1]?) he)) with ha_ _ _;rw [ha_];exact g1_),l2,(fun W' hW=>by obtain ⟨A1_,c1_,A2_,c2_,A3_,c3_,he,l1_,g1_,l2_,g2_,l3_,g3_⟩:=zve (h W' hW);injection (Option.some.inj (show some (Value.slice A2 x.f2.length c2)=some (Value.slice A2_ x.f2.length c2_) from congrArg (fun l=>l[2]?) he)) with ha_ _ _;rw [ha_];exact g2_),l3,(fun W' hW=>by obtain ⟨A1_,c1_,A2_,c2_,A3_,c3_,he,l1_,g1_,l2_,g2_,l3_,g3_⟩:=zve (h W' hW);injection (Option.some.inj (show some (Value.slice A3 x.f3.length c3)=some (Value.slice A3_ x.f3.length c3_) from congrArg (fun l=>l[3]?) he)) with ha_ _ _;rw [ha_];exact g3_)⟩
theorem k61_mkF (W:World) (ok:Nat→Prop) (x:S61) {A1:Option Addr} {c1:Nat} (l1:x.f1.length≤c1) (g1:Kd.F k90 W ok A1 x.f1.length x.f1) {A2:Option Addr} {c2:Nat} (l2:x.f2.length≤c2) (g2:Kd.F (Kd.int .i64) W ok A2 x.f2.length x.f2) {A3:Option Addr} {c3:Nat} (l3:x.f3.length≤c3) (g3:Kd.F k96 W ok A3 x.f3.length x.f3):Kd.FK k61 W ok x [.string x.f0,.slice A1 x.f1.length c1,.slice A2 x.f2.length c2,.slice A3 x.f3.length c3]:=fun W2 hW=>k61_mk W2 x l1 (g1 W2 hW) l2 (g2 W2 hW) l3 (g3 W2 hW)
def zt (xs:List S61) (i:Int):S61:=xs.getD i.toNat z61
theorem zkj {w:World} {A:Option Addr} {n:Nat} {xs:List S61} (h:Kd.C k61 w A n xs) (i:Int) (h0:0≤i) (h1:i<n):∃ ad A1 c1 A2 c2 A3 c3,A=some ad∧w.cell? (ad.add (i.toNat * 4))=some (.string (zt xs i).f0)∧w.cell? ⟨(ad.add (i.toNat * 4)).block,(ad.add (i.toNat * 4)).off+1,none⟩=some (.slice A1 (zt xs i).f1.length c1)∧w.cell? ⟨(ad.add (i.toNat * 4)).block,(ad.add (i.toNat * 4)).off+2,none⟩=some (.slice A2 (zt xs i).f2.length c2)∧w.cell? ⟨(ad.add (i.toNat * 4)).block,(ad.add (i.toNat * 4)).off+3,none⟩=some (.slice A3 (zt xs i).f3.length c3)∧(zt xs i).f1.length≤c1∧k90.C w A1 (zt xs i).f1.length (zt xs i).f1∧(zt xs i).f2.length≤c2∧(Kd.int .i64).C w A2 (zt xs i).f2.length (zt xs i).f2∧(zt xs i).f3.length≤c3∧k96.C w A3 (zt xs i).f3.length (zt xs i).f3:=by
 obtain ⟨ad,c,e,_,hK,hc0⟩:=Kd.zvv h z61 i h0 h1
 have hc:∀ j u,c[j]? = some u→w.cell? (ad.add (i.toNat * 4+j))=some u:=hc0
 obtain ⟨A1,c1,A2,c2,A3,c3,rfl,l1,g1,l2,g2,l3,g3⟩:=zve hK
 exact⟨ad,A1,c1,A2,c2,A3,c3,e,hc 0 _ rfl,by rw [← zj3 _ _ 1 (by omega)];exact hc 1 _ rfl,by rw [← zj3 _ _ 2 (by omega)];exact hc 2 _ rfl,by rw [← zj3 _ _ 3 (by omega)];exact hc 3 _ rfl,l1,g1,l2,g2,l3,g3⟩

/-! #### struct type 38 -/
structure S38 where
 f0:Int
 f1:Int
 f2:ByteArray
def z38:S38:=⟨(0:Int),(0:Int),(⟨#[]⟩:ByteArray)⟩
def k38:Kd S38:=Kd.iso (Kd.pair (Kd.int .i64) (Kd.pair (Kd.int .i64) Kd.string)) (fun x:S38=>(x.f0,x.f1,x.f2))
theorem k38_heap:Kd.Heap k38:=Kd.zvg _ (Kd.zxu (Kd.zkp .i64) (Kd.zxu (Kd.zkp .i64) Kd.zko))
theorem k38_open {w:World} {x:S38} {cs:List Value} (h:k38.K w x cs):cs = [.int .i64 x.f0,.int .i64 x.f1,.string x.f2]:=by
 obtain ⟨_,_,rfl,rfl,⟨_,_,rfl,rfl,rfl⟩⟩:=h
 exact rfl
theorem k38_openM {w:World} {base:Nat} {ok:Nat→Prop} {x:S38} {cs:List Value} (h:k38.M w base ok x cs):cs = [.int .i64 x.f0,.int .i64 x.f1,.string x.f2]:=by
 obtain ⟨_,_,rfl,rfl,⟨_,_,rfl,rfl,rfl⟩⟩:=h
 exact rfl
theorem k38_mk (w:World) (x:S38)  : k38.K w x [.int .i64 x.f0,.int .i64 x.f1,.string x.f2]:=⟨[.int .i64 x.f0], [.int .i64 x.f1,.string x.f2],rfl,rfl,⟨[.int .i64 x.f1], [.string x.f2],rfl,rfl,rfl⟩⟩
theorem zkn (w:World) (base:Nat) (ok:Nat→Prop) (x:S38)  : k38.M w base ok x [.int .i64 x.f0,.int .i64 x.f1,.string x.f2]:=⟨[.int .i64 x.f0], [.int .i64 x.f1,.string x.f2],rfl,rfl,⟨[.int .i64 x.f1], [.string x.f2],rfl,rfl,rfl⟩⟩
theorem k38_mkF (W:World) (ok:Nat→Prop) (x:S38):Kd.FK k38 W ok x [.int .i64 x.f0,.int .i64 x.f1,.string x.f2]:=fun W2 _=>k38_mk W2 x
def qf (xs:List S38) (i:Int):S38:=xs.getD i.toNat z38
theorem zxq {w:World} {A:Option Addr} {n:Nat} {xs:List S38} (h:Kd.C k38 w A n xs) (i:Int) (h0:0≤i) (h1:i<n):∃ ad ,A=some ad∧w.cell? (ad.add (i.toNat * 3))=some (.int .i64 (qf xs i).f0)∧w.cell? ⟨(ad.add (i.toNat * 3)).block,(ad.add (i.toNat * 3)).off+1,none⟩=some (.int .i64 (qf xs i).f1)∧w.cell? ⟨(ad.add (i.toNat * 3)).block,(ad.add (i.toNat * 3)).off+2,none⟩=some (.string (qf xs i).f2):=by
 obtain ⟨ad,c,e,_,hK,hc0⟩:=Kd.zvv h z38 i h0 h1
 have hc:∀ j u,c[j]? = some u→w.cell? (ad.add (i.toNat * 3+j))=some u:=hc0
 obtain rfl:=k38_open hK
 exact⟨ad,e,hc 0 _ rfl,by rw [← zj3 _ _ 1 (by omega)];exact hc 1 _ rfl,by rw [← zj3 _ _ 2 (by omega)];exact hc 2 _ rfl⟩

def rd_L11 (xs:List (List Int)) (i:Int):(List Int):=xs.getD i.toNat ([]:List Int)
theorem at_L11 {w:World} {A:Option Addr} {n:Nat} {xs:List (List Int)} (h:Kd.C (Kd.slice 5 (Kd.int .u8)) w A n xs) (i:Int) (h0:0≤i) (h1:i<n):∃ ad A0 c0,A=some ad∧w.cell? (ad.add i.toNat)=some (.slice A0 (rd_L11 xs i).length c0)∧(rd_L11 xs i).length≤c0∧(Kd.int .u8).C w A0 (rd_L11 xs i).length (rd_L11 xs i):=by
 obtain ⟨ad,c,e,_,hK,hc0⟩:=Kd.zvv h ([]:List Int) i h0 h1
 have hc:∀ j u,c[j]? = some u→w.cell? (ad.add (i.toNat * 1+j))=some u:=hc0
 obtain ⟨A0,c0,rfl,l0,g0⟩:=hK
 exact⟨ad,A0,c0,e,by have hq:=hc 0 _ rfl;rwa [Nat.mul_one,Nat.add_zero] at hq,l0,g0⟩

/-! #### struct type 32 -/
structure S32 where
 f0:(List Int)
 f1:(List Int)
def z32:S32:=⟨([]:List Int),([]:List Int)⟩
def k32:Kd S32:=Kd.iso (Kd.pair (Kd.slice 5 (Kd.int .u8)) (Kd.slice 5 (Kd.int .u8))) (fun x:S32=>(x.f0,x.f1))
theorem k32_heap:Kd.Heap k32:=Kd.zvg _ (Kd.zxu (Kd.zkb 5 (Kd.zkp .u8)) (Kd.zkb 5 (Kd.zkp .u8)))
theorem zvf {w:World} {x:S32} {cs:List Value} (h:k32.K w x cs):∃ A0 c0 A1 c1,cs = [.slice A0 x.f0.length c0,.slice A1 x.f1.length c1]∧x.f0.length≤c0∧(Kd.int .u8).C w A0 x.f0.length x.f0∧x.f1.length≤c1∧(Kd.int .u8).C w A1 x.f1.length x.f1:=by
 obtain ⟨_,_,rfl,⟨A0,c0,rfl,l0,g0⟩,⟨A1,c1,rfl,l1,g1⟩⟩:=h
 exact⟨A0,c0,A1,c1,rfl,l0,g0,l1,g1⟩
theorem zv7 {w:World} {base:Nat} {ok:Nat→Prop} {x:S32} {cs:List Value} (h:k32.M w base ok x cs):∃ v0 v1,cs = [v0,v1]∧(Kd.int .u8).R 5 w base ok v0 x.f0∧(Kd.int .u8).R 5 w base ok v1 x.f1:=by
 obtain ⟨_,_,rfl,⟨v0,rfl,g0⟩,⟨v1,rfl,g1⟩⟩:=h
 exact⟨v0,v1,rfl,g0,g1⟩
theorem k32_mk (w:World) (x:S32) {A0:Option Addr} {c0:Nat} (l0:x.f0.length≤c0) (g0:(Kd.int .u8).C w A0 x.f0.length x.f0) {A1:Option Addr} {c1:Nat} (l1:x.f1.length≤c1) (g1:(Kd.int .u8).C w A1 x.f1.length x.f1):k32.K w x [.slice A0 x.f0.length c0,.slice A1 x.f1.length c1]:=⟨[.slice A0 x.f0.length c0], [.slice A1 x.f1.length c1],rfl,⟨A0,c0,rfl,l0,g0⟩,⟨A1,c1,rfl,l1,g1⟩⟩
theorem k32_mkM (w:World) (base:Nat) (ok:Nat→Prop) (x:S32) {v0:Value} (g0:(Kd.int .u8).R 5 w base ok v0 x.f0) {v1:Value} (g1:(Kd.int .u8).R 5 w base ok v1 x.f1):k32.M w base ok x [v0,v1]:=⟨[v0], [v1],rfl,⟨v0,rfl,g0⟩,⟨v1,rfl,g1⟩⟩
theorem k32_openF {W:World} {ok:Nat→Prop} {x:S32} {cs:List Value} (h:Kd.FK k32 W ok x cs):∃ A0 c0 A1 c1,cs = [.slice A0 x.f0.length c0,.slice A1 x.f1.length c1]∧x.f0.length≤c0∧Kd.F (Kd.int .u8) W ok A0 x.f0.length x.f0∧x.f1.length≤c1∧Kd.F (Kd.int .u8) W ok A1 x.f1.length x.f1:=by
 obtain ⟨A0,c0,A1,c1,rfl,l0,_,l1,_⟩:=zvf (Kd.FK_now h)
 exact⟨A0,c0,A1,c1,rfl,l0,(fun W' hW=>by obtain ⟨A0_,c0_,A1_,c1_,he,l0_,g0_,l1_,g1_⟩:=zvf (h W' hW);injection (Option.some.inj (show some (Value.slice A0 x.f0.length c0)=some (Value.slice A0_ x.f0.length c0_) from congrArg (fun l=>l[0]?) he)) with ha_ _ _;rw [ha_];exact g0_),l1,(fun W' hW=>by obtain ⟨A0_,c0_,A1_,c1_,he,l0_,g0_,l1_,g1_⟩:=zvf (h W' hW);injection (Option.some.inj (show some (Value.slice A1 x.f1.length c1)=some (Value.slice A1_ x.f1.length c1_) from congrArg (fun l=>l[1]?) he)) with ha_ _ _;rw [ha_];exact g1_)⟩
theorem k32_mkF (W:World) (ok:Nat→Prop) (x:S32) {A0:Option Addr} {c0:Nat} (l0:x.f0.length≤c0) (g0:Kd.F (Kd.int .u8) W ok A0 x.f0.length x.f0) {A1:Option Addr} {c1:Nat} (l1:x.f1.length≤c1) (g1:Kd.F (Kd.int .u8) W ok A1 x.f1.length x.f1):Kd.FK k32 W ok x [.slice A0 x.f0.length c0,.slice A1 x.f1.length c1]:=fun W2 hW=>k32_mk W2 x l0 (g0 W2 hW) l1 (g1 W2 hW)
def zjq (xs:List S32) (i:Int):S32:=xs.getD i.toNat z32
theorem at_T32 {w:World} {A:Option Addr} {n:Nat} {xs:List S32} (h:Kd.C k32 w A n xs) (i:Int) (h0:0≤i) (h1:i<n):∃ ad A0 c0 A1 c1,A=some ad∧w.cell? (ad.add (i.toNat * 2))=some (.slice A0 (zjq xs i).f0.length c0)∧w.cell? ⟨(ad.add (i.toNat * 2)).block,(ad.add (i.toNat * 2)).off+1,none⟩=some (.slice A1 (zjq xs i).f1.length c1)∧(zjq xs i).f0.length≤c0∧(Kd.int .u8).C w A0 (zjq xs i).f0.length (zjq xs i).f0∧(zjq xs i).f1.length≤c1∧(Kd.int .u8).C w A1 (zjq xs i).f1.length (zjq xs i).f1:=by
 obtain ⟨ad,c,e,_,hK,hc0⟩:=Kd.zvv h z32 i h0 h1
 have hc:∀ j u,c[j]? = some u→w.cell? (ad.add (i.toNat * 2+j))=some u:=hc0
 obtain ⟨A0,c0,A1,c1,rfl,l0,g0,l1,g1⟩:=zvf hK
 exact⟨ad,A0,c0,A1,c1,e,hc 0 _ rfl,by rw [← zj3 _ _ 1 (by omega)];exact hc 1 _ rfl,l0,g0,l1,g1⟩

end Go.Proofs.YthhejedfjgikdaaDoor.PRowReads
