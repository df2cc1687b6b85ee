-- Written by wip/pp of this repo (over the kit's print, with additions of this session); Lean checks every line.
import Derived.Test.YtmfpaeajibeikaaDoorProg
import Derived.Lib.Hide
import Derived.Lib.BytesEntry
import Derived.Laws.Externs
import Derived.Deep.RegionWith
import Derived.Lib.LaidU8T
import Derived.Lib.SliceRun
import Derived.Shelf.Small.Strs
import Derived.Shelf.Unicode.ValidAny
import Derived.Test.YtmfpaeajibeikaaDoorShelfV
import Derived.Test.YtmfpaeajibeikaaDoorLdEvalHolds
import Derived.Test.YtmfpaeajibeikaaDoorWFour
import Derived.Test.YtmfpaeajibeikaaDoorWAt
import Derived.Test.YtmfpaeajibeikaaDoorWEqStruct
import Derived.Test.YtmfpaeajibeikaaDoorWRepsOne
import Derived.Test.YtmfpaeajibeikaaDoorWInvWords
import Derived.Test.YtmfpaeajibeikaaDoorWGuard
import Derived.Test.YtmfpaeajibeikaaDoorWMore
namespace Go.Proofs.YtmfpaeajibeikaaDoor.PEvalHolds
open Go.RowKit Go.Proofs.YtmfpaeajibeikaaDoorW.PrintWords Go.Proofs.YtmfpaeajibeikaaDoorW.PrintLast Go.Proofs.YtmfpaeajibeikaaDoorW.PrintMore
attribute [local go_sem] zje zjc zjo zjn zq1 zq0 zjd zjb   -- for this text's walks alone
set_option linter.unusedVariables false
set_option linter.unusedSimpArgs false



def errW:Option Int→Value
 | none=>.nilIface
 | some c=>.iface 0 (.int .i64 c)
theorem zk:errW none = .nilIface:=rfl
theorem zx (c:Int):errW (some c) = .iface 0 (.int .i64 c):=rfl

theorem info30:(Tryd.prog.info? 30).map (fun i=>(i.zero,i.size,i.bytes))=some (some (.agg #[(.int .i64 0),(.int .i64 0),(.string ⟨#[]⟩)]),3,32):=by kernel_rfl
theorem info33:(Tryd.prog.info? 33).map (fun i=>(i.zero,i.size,i.bytes))=some (some (.agg #[(.int .i64 0),(.int .i64 0),(.int .i64 0),(.string ⟨#[]⟩),(.string ⟨#[]⟩),(.string ⟨#[]⟩),(.int .i64 0),(.slice none 0 0)]),8,104):=by kernel_rfl
-- the values' own types
/-! #### struct type 30 -/
structure S30 where
 f0:Int
 f1:Int
 f2:ByteArray
def z30:S30:=⟨(0:Int),(0:Int),(⟨#[]⟩:ByteArray)⟩
def k30:Kd S30:=Kd.iso (Kd.pair (Kd.int .i64) (Kd.pair (Kd.int .i64) Kd.string)) (fun x:S30=>(x.f0,x.f1,x.f2))
theorem k30_heap:Kd.Heap k30:=Kd.heap_iso _ (Kd.zj7 (Kd.zkd .i64) (Kd.zj7 (Kd.zkd .i64) Kd.zxq))
theorem k30_open {w:World} {x:S30} {cs:List Value} (h:k30.K w x cs):cs = [.int .i64 x.f0,.int .i64 x.f1,.string x.f2]:=by
 obtain ⟨_,_,rfl,rfl,⟨_,_,rfl,rfl,rfl⟩⟩:=h
 exact rfl
theorem k30_openM {w:World} {base:Nat} {ok:Nat→Prop} {x:S30} {cs:List Value} (h:k30.M w base ok x cs):cs = [.int .i64 x.f0,.int .i64 x.f1,.string x.f2]:=by
 obtain ⟨_,_,rfl,rfl,⟨_,_,rfl,rfl,rfl⟩⟩:=h
 exact rfl
theorem k30_mk (w:World) (x:S30)  : k30.K w x [.int .i64 x.f0,.int .i64 x.f1,.string x.f2]:=⟨[.int .i64 x.f0], [.int .i64 x.f1,.string x.f2],rfl,rfl,⟨[.int .i64 x.f1], [.string x.f2],rfl,rfl,rfl⟩⟩
theorem k30_mkM (w:World) (base:Nat) (ok:Nat→Prop) (x:S30)  : k30.M w base ok x [.int .i64 x.f0,.int .i64 x.f1,.string x.f2]:=⟨[.int .i64 x.f0], [.int .i64 x.f1,.string x.f2],rfl,rfl,⟨[.int .i64 x.f1], [.string x.f2],rfl,rfl,rfl⟩⟩
theorem k30_mkF (W:World) (ok:Nat→Prop) (x:S30):Kd.FK k30 W ok x [.int .i64 x.f0,.int .i64 x.f1,.string x.f2]:=fun W2 _=>k30_mk W2 x
def zqh (xs:List S30) (i:Int):S30:=xs.getD i.toNat z30
theorem zxn {w:World} {A:Option Addr} {n:Nat} {xs:List S30} (h:Kd.C k30 w A n xs) (i:Int) (h0:0≤i) (h1:i<n):∃ ad ,A=some ad∧w.cell? (ad.add (i.toNat * 3))=some (.int .i64 (zqh xs i).f0)∧w.cell? ⟨(ad.add (i.toNat * 3)).block,(ad.add (i.toNat * 3)).off+1,none⟩=some (.int .i64 (zqh xs i).f1)∧w.cell? ⟨(ad.add (i.toNat * 3)).block,(ad.add (i.toNat * 3)).off+2,none⟩=some (.string (zqh xs i).f2):=by
 obtain ⟨ad,c,e,_,hK,hc0⟩:=Kd.C_get h z30 i h0 h1
 have hc:∀ j u,c[j]? = some u→w.cell? (ad.add (i.toNat * 3+j))=some u:=hc0
 obtain rfl:=k30_open hK
 exact⟨ad,e,hc 0 _ rfl,by rw [← zju _ _ 1 (by omega)];exact hc 1 _ rfl,by rw [← zju _ _ 2 (by omega)];exact hc 2 _ rfl⟩

/-! #### struct type 33, nested in itself -/
structure S33 where
 f0:Int
 f1:S30
 f2:ByteArray
 f3:ByteArray
 f4:Int
 f5:(List S33)
def z33:S33:=⟨(0:Int),z30,(⟨#[]⟩:ByteArray),(⟨#[]⟩:ByteArray),(0:Int),([]:List S33)⟩
def F33 (d:Kd S33):Kd S33:=Kd.iso (Kd.pair (Kd.int .i64) (Kd.pair k30 (Kd.pair Kd.string (Kd.pair Kd.string (Kd.pair (Kd.int .i64) (Kd.slice 33 d)))))) (fun x:S33=>(x.f0,x.f1,x.f2,x.f3,x.f4,x.f5))
theorem zxm:Kd.Mono F33:=Kd.mono_iso _ (Kd.zxa (Kd.zj6 _) (Kd.zxa (Kd.zj6 _) (Kd.zxa (Kd.zj6 _) (Kd.zxa (Kd.zj6 _) (Kd.zxa (Kd.zj6 _) (Kd.mono_slice 33 Kd.mono_id))))))
theorem sub33:Kd.Sub F33 [33]:=Kd.sub_iso _ (Kd.zxs (Kd.zxi _ (by decide)) (Kd.zxs (Kd.zxi _ (by decide)) (Kd.zxs (Kd.zxi _ (by decide)) (Kd.zxs (Kd.zxi _ (by decide)) (Kd.zxs (Kd.zxi _ (by decide)) (Kd.sub_slice 33 (by decide) Kd.sub_id))))))
theorem sz33:∀ n,(Kd.upto F33 8 [33] n).sz=8:=Kd.upto_sz (fun _=>rfl)
def k33:Kd S33:=Kd.fix F33 8 [33] sz33 (Kd.upto_E sub33)
theorem k33_heap:Kd.Heap k33:=Kd.heap_fix (fun _ h_=>Kd.heap_iso _ (Kd.zj7 (Kd.zkd .i64) (Kd.zj7 k30_heap (Kd.zj7 Kd.zxq (Kd.zj7 Kd.zxq (Kd.zj7 (Kd.zkd .i64) (Kd.heap_slice 33 h_)))))))
theorem zkc {w:World} {x:S33} {cs:List Value} (h:k33.K w x cs):∃ A7 c7,cs = [.int .i64 x.f0,.int .i64 x.f1.f0,.int .i64 x.f1.f1,.string x.f1.f2,.string x.f2,.string x.f3,.int .i64 x.f4,.slice A7 x.f5.length c7]∧x.f5.length≤c7∧k33.C w A7 x.f5.length x.f5:=by
 obtain ⟨n,h⟩:=h
 cases n with
 | zero=>exact h.elim
 | succ n=>
  obtain ⟨_,_,rfl,rfl,⟨_,_,rfl,s1,⟨_,_,rfl,rfl,⟨_,_,rfl,rfl,⟨_,_,rfl,rfl,⟨A7,c7,rfl,l7,g7⟩⟩⟩⟩⟩⟩:=h
  obtain rfl:=k30_open s1
  exact⟨A7,c7,rfl,l7,Kd.fix_C g7⟩
theorem k33_openM {w:World} {base:Nat} {ok:Nat→Prop} {x:S33} {cs:List Value} (h:k33.M w base ok x cs):∃ v7,cs = [.int .i64 x.f0,.int .i64 x.f1.f0,.int .i64 x.f1.f1,.string x.f1.f2,.string x.f2,.string x.f3,.int .i64 x.f4,v7]∧k33.R 33 w base ok v7 x.f5:=by
 obtain ⟨n,h⟩:=h
 cases n with
 | zero=>exact h.elim
 | succ n=>
  obtain ⟨_,_,rfl,rfl,⟨_,_,rfl,s1,⟨_,_,rfl,rfl,⟨_,_,rfl,rfl,⟨_,_,rfl,rfl,⟨v7,rfl,g7⟩⟩⟩⟩⟩⟩:=h
  obtain rfl:=k30_openM s1
  exact⟨v7,rfl,Kd.fix_R g7⟩
theorem k33_mk (w:World) (x:S33) {A7:Option Addr} {c7:Nat} (l7:x.f5.length≤c7) (g7:k33.C w A7 x.f5.length x.f5):k33.K w x [.int .i64 x.f0,.int .i64 x.f1.f0,.int .i64 x.f1.f1,.string x.f1.f2,.string x.f2,.string x.f3,.int .i64 x.f4,.slice A7 x.f5.length c7]:=by
 obtain ⟨n7,q7⟩:=Kd.fix_C_back zxm g7
 have r7:=Kd.upto_C_le zxm sz33 (show n7≤n7 by omega) q7
 exact⟨n7+1,⟨[.int .i64 x.f0], [.int .i64 x.f1.f0,.int .i64 x.f1.f1,.string x.f1.f2,.string x.f2,.string x.f3,.int .i64 x.f4,.slice A7 x.f5.length c7],rfl,rfl,⟨[.int .i64 x.f1.f0,.int .i64 x.f1.f1,.string x.f1.f2], [.string x.f2,.string x.f3,.int .i64 x.f4,.slice A7 x.f5.length c7],rfl,(k30_mk w x.f1 ),⟨[.string x.f2], [.string x.f3,.int .i64 x.f4,.slice A7 x.f5.length c7],rfl,rfl,⟨[.string x.f3], [.int .i64 x.f4,.slice A7 x.f5.length c7],rfl,rfl,⟨[.int .i64 x.f4], [.slice A7 x.f5.length c7],rfl,rfl,⟨A7,c7,rfl,l7,r7⟩⟩⟩⟩⟩⟩⟩
theorem k33_mkM (w:World) (base:Nat) (ok:Nat→Prop) (x:S33) {v7:Value} (g7:k33.R 33 w base ok v7 x.f5):k33.M w base ok x [.int .i64 x.f0,.int .i64 x.f1.f0,.int .i64 x.f1.f1,.string x.f1.f2,.string x.f2,.string x.f3,.int .i64 x.f4,v7]:=by
 obtain ⟨n7,q7⟩:=Kd.fix_R_back zxm g7
 have r7:=Kd.upto_R_le zxm sz33 (show n7≤n7 by omega) q7
 exact⟨n7+1,⟨[.int .i64 x.f0], [.int .i64 x.f1.f0,.int .i64 x.f1.f1,.string x.f1.f2,.string x.f2,.string x.f3,.int .i64 x.f4,v7],rfl,rfl,⟨[.int .i64 x.f1.f0,.int .i64 x.f1.f1,.string x.f1.f2], [.string x.f2,.string x.f3,.int .i64 x.f4,v7],rfl,(k30_mkM w base ok x.f1 ),⟨[.string x.f2], [.string x.f3,.int .i64 x.f4,v7],rfl,rfl,⟨[.string x.f3], [.int .i64 x.f4,v7],rfl,rfl,⟨[.int .i64 x.f4], [v7],rfl,rfl,⟨v7,rfl,r7⟩⟩⟩⟩⟩⟩⟩
theorem k33_openF {W:World} {ok:Nat→Prop} {x:S33} {cs:List Value} (h:Kd.FK k33 W ok x cs):∃ A7 c7,cs = [.int .i64 x.f0,.int .i64 x.f1.f0,.int .i64 x.f1.f1,.string x.f1.f2,.string x.f2,.string x.f3,.int .i64 x.f4,.slice A7 x.f5.length c7]∧x.f5.length≤c7∧Kd.F k33 W ok A7 x.f5.length x.f5:=by
 obtain ⟨A7,c7,rfl,l7,_⟩:=zkc (Kd.FK_now h)
 exact⟨A7,c7,rfl,l7,(fun W' hW=>by obtain ⟨A7_,c7_,he,l7_,g7_⟩:=zkc (h W' hW);injection (Option.some.inj (show some (Value.slice A7 x.f5.length c7)=some (Value.slice A7_ x.f5.length c7_) from congrArg (fun l=>l[7]?) he)) with ha_ _ _;rw [ha_];exact g7_)⟩
theorem k33_mkF (W:World) (ok:Nat→Prop) (x:S33) {A7:Option Addr} {c7:Nat} (l7:x.f5.length≤c7) (g7:Kd.F k33 W ok A7 x.f5.length x.f5):Kd.FK k33 W ok x [.int .i64 x.f0,.int .i64 x.f1.f0,.int .i64 x.f1.f1,.string x.f1.f2,.string x.f2,.string x.f3,.int .i64 x.f4,.slice A7 x.f5.length c7]:=fun W2 hW=>k33_mk W2 x l7 (g7 W2 hW)
def zg (xs:List S33) (i:Int):S33:=xs.getD i.toNat z33
theorem zxc {w:World} {A:Option Addr} {n:Nat} {xs:List S33} (h:Kd.C k33 w A n xs) (i:Int) (h0:0≤i) (h1:i<n):∃ ad A7 c7,A=some ad∧w.cell? (ad.add (i.toNat * 8))=some (.int .i64 (zg xs i).f0)∧w.cell? ⟨(ad.add (i.toNat * 8)).block,(ad.add (i.toNat * 8)).off+1,none⟩=some (.int .i64 (zg xs i).f1.f0)∧w.cell? ⟨(ad.add (i.toNat * 8)).block,(ad.add (i.toNat * 8)).off+2,none⟩=some (.int .i64 (zg xs i).f1.f1)∧w.cell? ⟨(ad.add (i.toNat * 8)).block,(ad.add (i.toNat * 8)).off+3,none⟩=some (.string (zg xs i).f1.f2)∧w.cell? ⟨(ad.add (i.toNat * 8)).block,(ad.add (i.toNat * 8)).off+4,none⟩=some (.string (zg xs i).f2)∧w.cell? ⟨(ad.add (i.toNat * 8)).block,(ad.add (i.toNat * 8)).off+5,none⟩=some (.string (zg xs i).f3)∧w.cell? ⟨(ad.add (i.toNat * 8)).block,(ad.add (i.toNat * 8)).off+6,none⟩=some (.int .i64 (zg xs i).f4)∧w.cell? ⟨(ad.add (i.toNat * 8)).block,(ad.add (i.toNat * 8)).off+7,none⟩=some (.slice A7 (zg xs i).f5.length c7)∧(zg xs i).f5.length≤c7∧k33.C w A7 (zg xs i).f5.length (zg xs i).f5:=by
 obtain ⟨ad,c,e,_,hK,hc0⟩:=Kd.C_get h z33 i h0 h1
 have hc:∀ j u,c[j]? = some u→w.cell? (ad.add (i.toNat * 8+j))=some u:=hc0
 obtain ⟨A7,c7,rfl,l7,g7⟩:=zkc hK
 exact⟨ad,A7,c7,e,hc 0 _ rfl,by rw [← zju _ _ 1 (by omega)];exact hc 1 _ rfl,by rw [← zju _ _ 2 (by omega)];exact hc 2 _ rfl,by rw [← zju _ _ 3 (by omega)];exact hc 3 _ rfl,by rw [← zju _ _ 4 (by omega)];exact hc 4 _ rfl,by rw [← zju _ _ 5 (by omega)];exact hc 5 _ rfl,by rw [← zju _ _ 6 (by omega)];exact hc 6 _ rfl,by rw [← zju _ _ 7 (by omega)];exact hc 7 _ rfl,l7,g7⟩

end Go.Proofs.YtmfpaeajibeikaaDoor.PEvalHolds
