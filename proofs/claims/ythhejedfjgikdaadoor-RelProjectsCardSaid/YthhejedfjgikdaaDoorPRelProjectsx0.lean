-- Written by wip/pp of this repo (over the kit's print, with additions of this session); Lean checks every line.
import Derived.Test.YthhejedfjgikdaaDoorProg
import Derived.Lib.Hide
import Derived.Lib.BytesEntry
import Derived.Laws.Externs
import Derived.Deep.Heap
import Derived.Deep.RegionLaw
import Derived.Deep.RegionWith
import Derived.Laws.Cover3
import Derived.Lib.LaidTab
import Derived.Lib.LaidU8
import Derived.Lib.LaidU8T
import Derived.Lib.ValidAsc
import Derived.Maps.Own
import Derived.Maps.OwnOps
import Derived.Maps.Views
import Derived.Shelf.Small.Strs
import Derived.Shelf.Unicode.ValidAny
import Derived.Test.YthhejedfjgikdaaDoorOpen
import Derived.Test.YthhejedfjgikdaaDoorShelfV
import Derived.Test.YthhejedfjgikdaaDoorLdRelProjects
import Derived.Test.YthhejedfjgikdaaDoorWFour
import Derived.Test.YthhejedfjgikdaaDoorWAt
import Derived.Test.YthhejedfjgikdaaDoorWEqStruct
import Derived.Test.YthhejedfjgikdaaDoorWRepsOne
import Derived.Test.YthhejedfjgikdaaDoorWInvWords
import Derived.Test.YthhejedfjgikdaaDoorWGuard
import Derived.Test.YthhejedfjgikdaaDoorWMore
namespace Go.Proofs.YthhejedfjgikdaaDoor.PRelProjects
open Go.RowKit Go.Proofs.YthhejedfjgikdaaDoorW.PrintWords Go.Proofs.YthhejedfjgikdaaDoorW.PrintLast Go.Proofs.YthhejedfjgikdaaDoorW.PrintMore
attribute [local go_sem] zjh zjf zjq zjp zq4 zq3 zjg zje   -- for this text's walks alone
set_option linter.unusedVariables false
set_option linter.unusedSimpArgs false



def errW:Option Int→Value
 | none=>.nilIface
 | some c=>.iface 0 (.int .i64 c)
theorem zx:errW none = .nilIface:=rfl
theorem zj (c:Int):errW (some c) = .iface 0 (.int .i64 c):=rfl

theorem info23:(Tryd.prog.info? 23).map (fun i=>(i.zero,i.size,i.bytes))=some (some (.slice none 0 0),1,24):=by kernel_rfl
theorem info38:(Tryd.prog.info? 38).map (fun i=>(i.zero,i.size,i.bytes))=some (some (.agg #[(.int .i64 0),(.int .i64 0),(.string ⟨#[]⟩)]),3,32):=by kernel_rfl
-- the values' own types
/-! #### struct type 38 -/
structure S38 where
 f0:Int
 f1:Int
 f2:ByteArray
def z38:S38:=⟨(0:Int),(0:Int),(⟨#[]⟩:ByteArray)⟩
def k38:Kd S38:=Kd.iso (Kd.pair (Kd.int .i64) (Kd.pair (Kd.int .i64) Kd.string)) (fun x:S38=>(x.f0,x.f1,x.f2))
theorem k38_open {w:World} {x:S38} {cs:List Value} (h:k38.K w x cs):cs = [.int .i64 x.f0,.int .i64 x.f1,.string x.f2]:=by
 obtain ⟨_,_,rfl,rfl,⟨_,_,rfl,rfl,rfl⟩⟩:=h
 exact rfl
theorem k38_openM {w:World} {base:Nat} {ok:Nat→Prop} {x:S38} {cs:List Value} (h:k38.M w base ok x cs):cs = [.int .i64 x.f0,.int .i64 x.f1,.string x.f2]:=by
 obtain ⟨_,_,rfl,rfl,⟨_,_,rfl,rfl,rfl⟩⟩:=h
 exact rfl
theorem k38_mk (w:World) (x:S38)  : k38.K w x [.int .i64 x.f0,.int .i64 x.f1,.string x.f2]:=⟨[.int .i64 x.f0], [.int .i64 x.f1,.string x.f2],rfl,rfl,⟨[.int .i64 x.f1], [.string x.f2],rfl,rfl,rfl⟩⟩
theorem zx2 (w:World) (base:Nat) (ok:Nat→Prop) (x:S38)  : k38.M w base ok x [.int .i64 x.f0,.int .i64 x.f1,.string x.f2]:=⟨[.int .i64 x.f0], [.int .i64 x.f1,.string x.f2],rfl,rfl,⟨[.int .i64 x.f1], [.string x.f2],rfl,rfl,rfl⟩⟩
def qe (xs:List S38) (i:Int):S38:=xs.getD i.toNat z38
theorem zj6 {w:World} {A:Option Addr} {n:Nat} {xs:List S38} (h:Kd.C k38 w A n xs) (i:Int) (h0:0≤i) (h1:i<n):∃ ad ,A=some ad∧w.cell? (ad.add (i.toNat * 3))=some (.int .i64 (qe xs i).f0)∧w.cell? ⟨(ad.add (i.toNat * 3)).block,(ad.add (i.toNat * 3)).off+1,none⟩=some (.int .i64 (qe xs i).f1)∧w.cell? ⟨(ad.add (i.toNat * 3)).block,(ad.add (i.toNat * 3)).off+2,none⟩=some (.string (qe xs i).f2):=by
 obtain ⟨ad,c,e,_,hK,hc0⟩:=Kd.C_get h z38 i h0 h1
 have hc:∀ j u,c[j]? = some u→w.cell? (ad.add (i.toNat * 3+j))=some u:=hc0
 obtain rfl:=k38_open hK
 exact⟨ad,e,hc 0 _ rfl,by rw [← zjz _ _ 1 (by omega)];exact hc 1 _ rfl,by rw [← zjz _ _ 2 (by omega)];exact hc 2 _ rfl⟩

def zqo (xs:List (List S38)) (i:Int):(List S38):=xs.getD i.toNat ([]:List S38)
theorem zxl {w:World} {A:Option Addr} {n:Nat} {xs:List (List S38)} (h:Kd.C (Kd.slice 38 k38) w A n xs) (i:Int) (h0:0≤i) (h1:i<n):∃ ad A0 c0,A=some ad∧w.cell? (ad.add i.toNat)=some (.slice A0 (zqo xs i).length c0)∧(zqo xs i).length≤c0∧k38.C w A0 (zqo xs i).length (zqo xs i):=by
 obtain ⟨ad,c,e,_,hK,hc0⟩:=Kd.C_get h ([]:List S38) i h0 h1
 have hc:∀ j u,c[j]? = some u→w.cell? (ad.add (i.toNat * 1+j))=some u:=hc0
 obtain ⟨A0,c0,rfl,l0,g0⟩:=hK
 exact⟨ad,A0,c0,e,by have hq:=hc 0 _ rfl;rwa [Nat.mul_one,Nat.add_zero] at hq,l0,g0⟩

/-! #### struct type 41, nested in itself -/
structure S41 where
 f0:Int
 f1:S38
 f2:ByteArray
 f3:ByteArray
 f4:Int
 f5:(List S41)
def z41:S41:=⟨(0:Int),z38,(⟨#[]⟩:ByteArray),(⟨#[]⟩:ByteArray),(0:Int),([]:List S41)⟩
def F41 (d:Kd S41):Kd S41:=Kd.iso (Kd.pair (Kd.int .i64) (Kd.pair k38 (Kd.pair Kd.string (Kd.pair Kd.string (Kd.pair (Kd.int .i64) (Kd.slice 41 d)))))) (fun x:S41=>(x.f0,x.f1,x.f2,x.f3,x.f4,x.f5))
theorem zxm:Kd.Mono F41:=Kd.mono_iso _ (Kd.zxe (Kd.zj8 _) (Kd.zxe (Kd.zj8 _) (Kd.zxe (Kd.zj8 _) (Kd.zxe (Kd.zj8 _) (Kd.zxe (Kd.zj8 _) (Kd.mono_slice 41 Kd.mono_id))))))
theorem sub41:Kd.Sub F41 [41]:=Kd.sub_iso _ (Kd.zxo (Kd.zxg _ (by decide)) (Kd.zxo (Kd.zxg _ (by decide)) (Kd.zxo (Kd.zxg _ (by decide)) (Kd.zxo (Kd.zxg _ (by decide)) (Kd.zxo (Kd.zxg _ (by decide)) (Kd.sub_slice 41 (by decide) Kd.sub_id))))))
theorem sz41:∀ n,(Kd.upto F41 8 [41] n).sz=8:=Kd.upto_sz (fun _=>rfl)
def k41:Kd S41:=Kd.fix F41 8 [41] sz41 (Kd.upto_E sub41)
theorem k41_open {w:World} {x:S41} {cs:List Value} (h:k41.K w x cs):∃ A7 c7,cs = [.int .i64 x.f0,.int .i64 x.f1.f0,.int .i64 x.f1.f1,.string x.f1.f2,.string x.f2,.string x.f3,.int .i64 x.f4,.slice A7 x.f5.length c7]∧x.f5.length≤c7∧k41.C w A7 x.f5.length x.f5:=by
 obtain ⟨n,h⟩:=h
 cases n with
 | zero=>exact h.elim
 | succ n=>
  obtain ⟨_,_,rfl,rfl,⟨_,_,rfl,s1,⟨_,_,rfl,rfl,⟨_,_,rfl,rfl,⟨_,_,rfl,rfl,⟨A7,c7,rfl,l7,g7⟩⟩⟩⟩⟩⟩:=h
  obtain rfl:=k38_open s1
  exact⟨A7,c7,rfl,l7,Kd.fix_C g7⟩
theorem k41_openM {w:World} {base:Nat} {ok:Nat→Prop} {x:S41} {cs:List Value} (h:k41.M w base ok x cs):∃ v7,cs = [.int .i64 x.f0,.int .i64 x.f1.f0,.int .i64 x.f1.f1,.string x.f1.f2,.string x.f2,.string x.f3,.int .i64 x.f4,v7]∧k41.R 41 w base ok v7 x.f5:=by
 obtain ⟨n,h⟩:=h
 cases n with
 | zero=>exact h.elim
 | succ n=>
  obtain ⟨_,_,rfl,rfl,⟨_,_,rfl,s1,⟨_,_,rfl,rfl,⟨_,_,rfl,rfl,⟨_,_,rfl,rfl,⟨v7,rfl,g7⟩⟩⟩⟩⟩⟩:=h
  obtain rfl:=k38_openM s1
  exact⟨v7,rfl,Kd.fix_R g7⟩
theorem k41_mk (w:World) (x:S41) {A7:Option Addr} {c7:Nat} (l7:x.f5.length≤c7) (g7:k41.C w A7 x.f5.length x.f5):k41.K w x [.int .i64 x.f0,.int .i64 x.f1.f0,.int .i64 x.f1.f1,.string x.f1.f2,.string x.f2,.string x.f3,.int .i64 x.f4,.slice A7 x.f5.length c7]:=by
 obtain ⟨n7,q7⟩:=Kd.fix_C_back zxm g7
 have r7:=Kd.upto_C_le zxm sz41 (show n7≤n7 by omega) q7
 exact⟨n7+1,⟨[.int .i64 x.f0], [.int .i64 x.f1.f0,.int .i64 x.f1.f1,.string x.f1.f2,.string x.f2,.string x.f3,.int .i64 x.f4,.slice A7 x.f5.length c7],rfl,rfl,⟨[.int .i64 x.f1.f0,.int .i64 x.f1.f1,.string x.f1.f2], [.string x.f2,.string x.f3,.int .i64 x.f4,.slice A7 x.f5.length c7],rfl,(k38_mk w x.f1 ),⟨[.string x.f2], [.string x.f3,.int .i64 x.f4,.slice A7 x.f5.length c7],rfl,rfl,⟨[.string x.f3], [.int .i64 x.f4,.slice A7 x.f5.length c7],rfl,rfl,⟨[.int .i64 x.f4], [.slice A7 x.f5.length c7],rfl,rfl,⟨A7,c7,rfl,l7,r7⟩⟩⟩⟩⟩⟩⟩
theorem k41_mkM (w:World) (base:Nat) (ok:Nat→Prop) (x:S41) {v7:Value} (g7:k41.R 41 w base ok v7 x.f5):k41.M w base ok x [.int .i64 x.f0,.int .i64 x.f1.f0,.int .i64 x.f1.f1,.string x.f1.f2,.string x.f2,.string x.f3,.int .i64 x.f4,v7]:=by
 obtain ⟨n7,q7⟩:=Kd.fix_R_back zxm g7
 have r7:=Kd.upto_R_le zxm sz41 (show n7≤n7 by omega) q7
 exact⟨n7+1,⟨[.int .i64 x.f0], [.int .i64 x.f1.f0,.int .i64 x.f1.f1,.string x.f1.f2,.string x.f2,.string x.f3,.int .i64 x.f4,v7],rfl,rfl,⟨[.int .i64 x.f1.f0,.int .i64 x.f1.f1,.string x.f1.f2], [.string x.f2,.string x.f3,.int .i64 x.f4,v7],rfl,(zx2 w base ok x.f1 ),⟨[.string x.f2], [.string x.f3,.int .i64 x.f4,v7],rfl,rfl,⟨[.string x.f3], [.int .i64 x.f4,v7],rfl,rfl,⟨[.int .i64 x.f4], [v7],rfl,rfl,⟨v7,rfl,r7⟩⟩⟩⟩⟩⟩⟩
def zg (xs:List S41) (i:Int):S41:=xs.getD i.toNat z41
theorem zxh {w:World} {A:Option Addr} {n:Nat} {xs:List S41} (h:Kd.C k41 w A n xs) (i:Int) (h0:0≤i) (h1:i<n):∃ ad A7 c7,A=some ad∧w.cell? (ad.add (i.toNat * 8))=some (.int .i64 (zg xs i).f0)∧w.cell? ⟨(ad.add (i.toNat * 8)).block,(ad.add (i.toNat * 8)).off+1,none⟩=some (.int .i64 (zg xs i).f1.f0)∧w.cell? ⟨(ad.add (i.toNat * 8)).block,(ad.add (i.toNat * 8)).off+2,none⟩=some (.int .i64 (zg xs i).f1.f1)∧w.cell? ⟨(ad.add (i.toNat * 8)).block,(ad.add (i.toNat * 8)).off+3,none⟩=some (.string (zg xs i).f1.f2)∧w.cell? ⟨(ad.add (i.toNat * 8)).block,(ad.add (i.toNat * 8)).off+4,none⟩=some (.string (zg xs i).f2)∧w.cell? ⟨(ad.add (i.toNat * 8)).block,(ad.add (i.toNat * 8)).off+5,none⟩=some (.string (zg xs i).f3)∧w.cell? ⟨(ad.add (i.toNat * 8)).block,(ad.add (i.toNat * 8)).off+6,none⟩=some (.int .i64 (zg xs i).f4)∧w.cell? ⟨(ad.add (i.toNat * 8)).block,(ad.add (i.toNat * 8)).off+7,none⟩=some (.slice A7 (zg xs i).f5.length c7)∧(zg xs i).f5.length≤c7∧k41.C w A7 (zg xs i).f5.length (zg xs i).f5:=by
 obtain ⟨ad,c,e,_,hK,hc0⟩:=Kd.C_get h z41 i h0 h1
 have hc:∀ j u,c[j]? = some u→w.cell? (ad.add (i.toNat * 8+j))=some u:=hc0
 obtain ⟨A7,c7,rfl,l7,g7⟩:=k41_open hK
 exact⟨ad,A7,c7,e,hc 0 _ rfl,by rw [← zjz _ _ 1 (by omega)];exact hc 1 _ rfl,by rw [← zjz _ _ 2 (by omega)];exact hc 2 _ rfl,by rw [← zjz _ _ 3 (by omega)];exact hc 3 _ rfl,by rw [← zjz _ _ 4 (by omega)];exact hc 4 _ rfl,by rw [← zjz _ _ 5 (by omega)];exact hc 5 _ rfl,by rw [← zjz _ _ 6 (by omega)];exact hc 6 _ rfl,by rw [← zjz _ _ 7 (by omega)];exact hc 7 _ rfl,l7,g7⟩

end Go.Proofs.YthhejedfjgikdaaDoor.PRelProjects
