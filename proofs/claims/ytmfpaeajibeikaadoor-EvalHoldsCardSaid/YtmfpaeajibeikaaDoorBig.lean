/-
 'Big g r': with enough rounds g tells r. How it is put together: a step,a test,a call. No condition.
-/
import Derived.Test.YtmfpaeajibeikaaDoorWMore
import Derived.OpenShut
namespace Go.Proofs.YtmfpaeajibeikaaDoor.Bg
open Go Go.RowKit Go.Proofs.YtmfpaeajibeikaaDoorW.PrintWords
def Big {α:Type} (g:Nat→Option α) (r:α):Prop := ∃ k0,∀ k,k0≤k→g k=some r
theorem Big.of {α:Type} (r:α):Big (fun _=>some r) r:=⟨0,fun _ _=>rfl⟩
theorem Big.eq {α:Type} {g:Nat→Option α} {r:α} (h:∀ k,g k=some r):Big g r:=⟨0,fun k _=>h k⟩
theorem Big.succ {α:Type} {g:Nat→Option α} {r:α} (h:Big (fun k=>g (k+1)) r):Big g r:=by
 obtain ⟨k0,h⟩:=h
 refine⟨k0+1,fun k hk=>?_⟩
 obtain ⟨m,rfl⟩:∃ m,k=m+1:=⟨k - 1,by omega⟩
 exact h m (by omega)
theorem Big.bind {α β:Type} {g:Nat→Option α} {f:Nat→α→Option β} {r:α} {s:β} (hg:Big g r) (hf:Big (fun k=>f k r) s):Big (fun k=>(g k).bind (f k)) s:=by
 obtain ⟨k0,hg⟩:=hg
 obtain ⟨k1,hf⟩:=hf
 refine⟨max k0 k1,fun k hk=>?_⟩
 show(g k).bind (f k)=some s
 rw [hg k (by omega),Option.bind_some]
 exact hf k (by omega)
theorem Big.bind1 {α β:Type} {g:Option α} {f:Nat→α→Option β} {r:α} {s:β} (hg:g=some r) (hf:Big (fun k=>f k r) s):Big (fun k=>g.bind (f k)) s:=by
 subst hg
 exact hf
theorem Big.to {α:Type} {g:Nat→Option α} {r:α} (h:Big g r):∃ k,g k=some r:=by
 obtain ⟨k0,h⟩:=h
 exact⟨k0,h k0 (Nat.le_refl _)⟩
theorem Big.cast {α:Type} {g:Nat→Option α} {r s:α} (h:Big g r) (e:r=s):Big g s:=e ▸ h
theorem Big.congr {α:Type} {g g':Nat→Option α} {r:α} (h:Big g' r) (e:∀ k,g k=g' k):Big g r:=by
 obtain ⟨k0,h⟩:=h
 exact⟨k0,fun k hk=>(e k).trans (h k hk)⟩
theorem w64 {x:Int} (h0 : -9223372036854775808≤x) (h1:x≤9223372036854775807):wrap64 x=x:=by unfold wrap64;omega
theorem rd_at (l:List Int) (i:Nat) (h:i<l.length):rd l (i:Int)=l[i]:=by simp [rd,List.getD_eq_getElem?_getD,h]
theorem rd_u8 {l:List Int} (hw:∀ x ∈ l,(Lit.int .u8 x).wf=true) {i:Nat} (h:i<l.length):0≤rd l (i:Int)∧rd l (i:Int)≤255:=by
 rw [rd_at l i h]
 have:=bounds_u8 (hw l[i] (List.getElem_mem h))
 omega
theorem bt_at' (s:ByteArray) (i:Nat) (h:i<s.size):bt s (i:Int)=(s[i].toNat:Int):=by
 have:=zj3 s (i:Int) (by simpa using h)
 rw [← this]
 simp
end Go.Proofs.YtmfpaeajibeikaaDoor.Bg
