-- Written by wip/pp of this repo (over the kit's print, with additions of this session); Lean checks every line.
import Derived.Test.YtkgllmjlhaimcaaDoorProg
import Derived.Lib.Hide
import Derived.Lib.BytesEntry
import Derived.Laws.Externs
import Derived.Deep.RegionWith
import Derived.Lib.LaidU8T
import Derived.Shelf.Small.Strs
import Derived.Shelf.Unicode.ValidAny
import Derived.Test.YtkgllmjlhaimcaaDoorShelfV
import Derived.Test.YtkgllmjlhaimcaaDoorLdEvalEvals
import Derived.Test.YtkgllmjlhaimcaaDoorWFour
import Derived.Test.YtkgllmjlhaimcaaDoorWAt
import Derived.Test.YtkgllmjlhaimcaaDoorWEqStruct
import Derived.Test.YtkgllmjlhaimcaaDoorWRepsOne
import Derived.Test.YtkgllmjlhaimcaaDoorWInvWords
import Derived.Test.YtkgllmjlhaimcaaDoorWGuard
import Derived.Test.YtkgllmjlhaimcaaDoorWMore
namespace Go.Proofs.YtkgllmjlhaimcaaDoor.PEvalEvals
open Go.RowKit Go.Proofs.YtkgllmjlhaimcaaDoorW.PrintWords Go.Proofs.YtkgllmjlhaimcaaDoorW.PrintLast Go.Proofs.YtkgllmjlhaimcaaDoorW.PrintMore
attribute [local go_sem] zje zjc zjo zjn zq4 zq3 zjd zjb   -- for this text's walks alone
set_option linter.unusedVariables false
set_option linter.unusedSimpArgs false



def errW:Option Int→Value
 | none=>.nilIface
 | some c=>.iface 0 (.int .i64 c)
theorem zk:errW none = .nilIface:=rfl
theorem zx (c:Int):errW (some c) = .iface 0 (.int .i64 c):=rfl

theorem info23:(Tryd.prog.info? 23).map (fun i=>(i.zero,i.size,i.bytes))=some (some (.agg #[(.int .i64 0),(.int .i64 0),(.string ⟨#[]⟩)]),3,32):=by kernel_rfl
-- the values' own types
/-! #### struct type 23 -/
structure S23 where
 f0:Int
 f1:Int
 f2:ByteArray
def z23:S23:=⟨(0:Int),(0:Int),(⟨#[]⟩:ByteArray)⟩
def k23:Kd S23:=Kd.iso (Kd.pair (Kd.int .i64) (Kd.pair (Kd.int .i64) Kd.string)) (fun x:S23=>(x.f0,x.f1,x.f2))
theorem k23_open {w:World} {x:S23} {cs:List Value} (h:k23.K w x cs):cs = [.int .i64 x.f0,.int .i64 x.f1,.string x.f2]:=by
 obtain ⟨_,_,rfl,rfl,⟨_,_,rfl,rfl,rfl⟩⟩:=h
 exact rfl
theorem k23_openM {w:World} {base:Nat} {ok:Nat→Prop} {x:S23} {cs:List Value} (h:k23.M w base ok x cs):cs = [.int .i64 x.f0,.int .i64 x.f1,.string x.f2]:=by
 obtain ⟨_,_,rfl,rfl,⟨_,_,rfl,rfl,rfl⟩⟩:=h
 exact rfl
theorem k23_mk (w:World) (x:S23)  : k23.K w x [.int .i64 x.f0,.int .i64 x.f1,.string x.f2]:=⟨[.int .i64 x.f0], [.int .i64 x.f1,.string x.f2],rfl,rfl,⟨[.int .i64 x.f1], [.string x.f2],rfl,rfl,rfl⟩⟩
theorem k23_mkM (w:World) (base:Nat) (ok:Nat→Prop) (x:S23)  : k23.M w base ok x [.int .i64 x.f0,.int .i64 x.f1,.string x.f2]:=⟨[.int .i64 x.f0], [.int .i64 x.f1,.string x.f2],rfl,rfl,⟨[.int .i64 x.f1], [.string x.f2],rfl,rfl,rfl⟩⟩
def zqc (xs:List S23) (i:Int):S23:=xs.getD i.toNat z23
theorem zxg {w:World} {A:Option Addr} {n:Nat} {xs:List S23} (h:Kd.C k23 w A n xs) (i:Int) (h0:0≤i) (h1:i<n):∃ ad ,A=some ad∧w.cell? (ad.add (i.toNat * 3))=some (.int .i64 (zqc xs i).f0)∧w.cell? ⟨(ad.add (i.toNat * 3)).block,(ad.add (i.toNat * 3)).off+1,none⟩=some (.int .i64 (zqc xs i).f1)∧w.cell? ⟨(ad.add (i.toNat * 3)).block,(ad.add (i.toNat * 3)).off+2,none⟩=some (.string (zqc xs i).f2):=by
 obtain ⟨ad,c,e,_,hK,hc0⟩:=Kd.C_get h z23 i h0 h1
 have hc:∀ j u,c[j]? = some u→w.cell? (ad.add (i.toNat * 3+j))=some u:=hc0
 obtain rfl:=k23_open hK
 exact⟨ad,e,hc 0 _ rfl,by rw [← zju _ _ 1 (by omega)];exact hc 1 _ rfl,by rw [← zju _ _ 2 (by omega)];exact hc 2 _ rfl⟩

/-! #### struct type 26, nested in itself -/
structure S26 where
 f0:Int
 f1:S23
 f2:ByteArray
 f3:ByteArray
 f4:Int
 f5:(List S26)
def z26:S26:=⟨(0:Int),z23,(⟨#[]⟩:ByteArray),(⟨#[]⟩:ByteArray),(0:Int),([]:List S26)⟩
def F26 (d:Kd S26):Kd S26:=Kd.iso (Kd.pair (Kd.int .i64) (Kd.pair k23 (Kd.pair Kd.string (Kd.pair Kd.string (Kd.pair (Kd.int .i64) (Kd.slice 26 d)))))) (fun x:S26=>(x.f0,x.f1,x.f2,x.f3,x.f4,x.f5))
theorem zxf:Kd.Mono F26:=Kd.mono_iso _ (Kd.zj5 (Kd.zj3 _) (Kd.zj5 (Kd.zj3 _) (Kd.zj5 (Kd.zj3 _) (Kd.zj5 (Kd.zj3 _) (Kd.zj5 (Kd.zj3 _) (Kd.mono_slice 26 Kd.mono_id))))))
theorem sub26:Kd.Sub F26 [26]:=Kd.sub_iso _ (Kd.zxk (Kd.zxa _ (by decide)) (Kd.zxk (Kd.zxa _ (by decide)) (Kd.zxk (Kd.zxa _ (by decide)) (Kd.zxk (Kd.zxa _ (by decide)) (Kd.zxk (Kd.zxa _ (by decide)) (Kd.sub_slice 26 (by decide) Kd.sub_id))))))
theorem sz26:∀ n,(Kd.upto F26 8 [26] n).sz=8:=Kd.upto_sz (fun _=>rfl)
def k26:Kd S26:=Kd.fix F26 8 [26] sz26 (Kd.upto_E sub26)
theorem k26_open {w:World} {x:S26} {cs:List Value} (h:k26.K w x cs):∃ A7 c7,cs = [.int .i64 x.f0,.int .i64 x.f1.f0,.int .i64 x.f1.f1,.string x.f1.f2,.string x.f2,.string x.f3,.int .i64 x.f4,.slice A7 x.f5.length c7]∧x.f5.length≤c7∧k26.C w A7 x.f5.length x.f5:=by
 obtain ⟨n,h⟩:=h
 cases n with
 | zero=>exact h.elim
 | succ n=>
  obtain ⟨_,_,rfl,rfl,⟨_,_,rfl,s1,⟨_,_,rfl,rfl,⟨_,_,rfl,rfl,⟨_,_,rfl,rfl,⟨A7,c7,rfl,l7,g7⟩⟩⟩⟩⟩⟩:=h
  obtain rfl:=k23_open s1
  exact⟨A7,c7,rfl,l7,Kd.fix_C g7⟩
theorem k26_openM {w:World} {base:Nat} {ok:Nat→Prop} {x:S26} {cs:List Value} (h:k26.M w base ok x cs):∃ v7,cs = [.int .i64 x.f0,.int .i64 x.f1.f0,.int .i64 x.f1.f1,.string x.f1.f2,.string x.f2,.string x.f3,.int .i64 x.f4,v7]∧k26.R 26 w base ok v7 x.f5:=by
 obtain ⟨n,h⟩:=h
 cases n with
 | zero=>exact h.elim
 | succ n=>
  obtain ⟨_,_,rfl,rfl,⟨_,_,rfl,s1,⟨_,_,rfl,rfl,⟨_,_,rfl,rfl,⟨_,_,rfl,rfl,⟨v7,rfl,g7⟩⟩⟩⟩⟩⟩:=h
  obtain rfl:=k23_openM s1
  exact⟨v7,rfl,Kd.fix_R g7⟩
theorem k26_mk (w:World) (x:S26) {A7:Option Addr} {c7:Nat} (l7:x.f5.length≤c7) (g7:k26.C w A7 x.f5.length x.f5):k26.K w x [.int .i64 x.f0,.int .i64 x.f1.f0,.int .i64 x.f1.f1,.string x.f1.f2,.string x.f2,.string x.f3,.int .i64 x.f4,.slice A7 x.f5.length c7]:=by
 obtain ⟨n7,q7⟩:=Kd.fix_C_back zxf g7
 have r7:=Kd.upto_C_le zxf sz26 (show n7≤n7 by omega) q7
 exact⟨n7+1,⟨[.int .i64 x.f0], [.int .i64 x.f1.f0,.int .i64 x.f1.f1,.string x.f1.f2,.string x.f2,.string x.f3,.int .i64 x.f4,.slice A7 x.f5.length c7],rfl,rfl,⟨[.int .i64 x.f1.f0,.int .i64 x.f1.f1,.string x.f1.f2], [.string x.f2,.string x.f3,.int .i64 x.f4,.slice A7 x.f5.length c7],rfl,(k23_mk w x.f1 ),⟨[.string x.f2], [.string x.f3,.int .i64 x.f4,.slice A7 x.f5.length c7],rfl,rfl,⟨[.string x.f3], [.int .i64 x.f4,.slice A7 x.f5.length c7],rfl,rfl,⟨[.int .i64 x.f4], [.slice A7 x.f5.length c7],rfl,rfl,⟨A7,c7,rfl,l7,r7⟩⟩⟩⟩⟩⟩⟩
theorem k26_mkM (w:World) (base:Nat) (ok:Nat→Prop) (x:S26) {v7:Value} (g7:k26.R 26 w base ok v7 x.f5):k26.M w base ok x [.int .i64 x.f0,.int .i64 x.f1.f0,.int .i64 x.f1.f1,.string x.f1.f2,.string x.f2,.string x.f3,.int .i64 x.f4,v7]:=by
 obtain ⟨n7,q7⟩:=Kd.fix_R_back zxf g7
 have r7:=Kd.upto_R_le zxf sz26 (show n7≤n7 by omega) q7
 exact⟨n7+1,⟨[.int .i64 x.f0], [.int .i64 x.f1.f0,.int .i64 x.f1.f1,.string x.f1.f2,.string x.f2,.string x.f3,.int .i64 x.f4,v7],rfl,rfl,⟨[.int .i64 x.f1.f0,.int .i64 x.f1.f1,.string x.f1.f2], [.string x.f2,.string x.f3,.int .i64 x.f4,v7],rfl,(k23_mkM w base ok x.f1 ),⟨[.string x.f2], [.string x.f3,.int .i64 x.f4,v7],rfl,rfl,⟨[.string x.f3], [.int .i64 x.f4,v7],rfl,rfl,⟨[.int .i64 x.f4], [v7],rfl,rfl,⟨v7,rfl,r7⟩⟩⟩⟩⟩⟩⟩
def qr (xs:List S26) (i:Int):S26:=xs.getD i.toNat z26
theorem zx4 {w:World} {A:Option Addr} {n:Nat} {xs:List S26} (h:Kd.C k26 w A n xs) (i:Int) (h0:0≤i) (h1:i<n):∃ ad A7 c7,A=some ad∧w.cell? (ad.add (i.toNat * 8))=some (.int .i64 (qr xs i).f0)∧w.cell? ⟨(ad.add (i.toNat * 8)).block,(ad.add (i.toNat * 8)).off+1,none⟩=some (.int .i64 (qr xs i).f1.f0)∧w.cell? ⟨(ad.add (i.toNat * 8)).block,(ad.add (i.toNat * 8)).off+2,none⟩=some (.int .i64 (qr xs i).f1.f1)∧w.cell? ⟨(ad.add (i.toNat * 8)).block,(ad.add (i.toNat * 8)).off+3,none⟩=some (.string (qr xs i).f1.f2)∧w.cell? ⟨(ad.add (i.toNat * 8)).block,(ad.add (i.toNat * 8)).off+4,none⟩=some (.string (qr xs i).f2)∧w.cell? ⟨(ad.add (i.toNat * 8)).block,(ad.add (i.toNat * 8)).off+5,none⟩=some (.string (qr xs i).f3)∧w.cell? ⟨(ad.add (i.toNat * 8)).block,(ad.add (i.toNat * 8)).off+6,none⟩=some (.int .i64 (qr xs i).f4)∧w.cell? ⟨(ad.add (i.toNat * 8)).block,(ad.add (i.toNat * 8)).off+7,none⟩=some (.slice A7 (qr xs i).f5.length c7)∧(qr xs i).f5.length≤c7∧k26.C w A7 (qr xs i).f5.length (qr xs i).f5:=by
 obtain ⟨ad,c,e,_,hK,hc0⟩:=Kd.C_get h z26 i h0 h1
 have hc:∀ j u,c[j]? = some u→w.cell? (ad.add (i.toNat * 8+j))=some u:=hc0
 obtain ⟨A7,c7,rfl,l7,g7⟩:=k26_open hK
 exact⟨ad,A7,c7,e,hc 0 _ rfl,by rw [← zju _ _ 1 (by omega)];exact hc 1 _ rfl,by rw [← zju _ _ 2 (by omega)];exact hc 2 _ rfl,by rw [← zju _ _ 3 (by omega)];exact hc 3 _ rfl,by rw [← zju _ _ 4 (by omega)];exact hc 4 _ rfl,by rw [← zju _ _ 5 (by omega)];exact hc 5 _ rfl,by rw [← zju _ _ 6 (by omega)];exact hc 6 _ rfl,by rw [← zju _ _ 7 (by omega)];exact hc 7 _ rfl,l7,g7⟩

end Go.Proofs.YtkgllmjlhaimcaaDoor.PEvalEvals
