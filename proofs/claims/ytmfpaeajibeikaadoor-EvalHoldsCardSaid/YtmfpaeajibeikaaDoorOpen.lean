/-
 How an argument's reading (DataW.trod) opens into the kinds (Kd) of the print: one law a shape;what is known of what was read (its numbers are of their kinds,its lengths below 2^63),and a bound on how much it is (its bulk). No condition.
-/
import Derived.Test.YtmfpaeajibeikaaDoorWWords
import Derived.ChangeArms
import Derived.DataReads
import Derived.OpenShut
import Derived.ChangeOld
import Derived.SizedLaws
namespace Go.Proofs.YtmfpaeajibeikaaDoor.Op
open Go Go.RowKit Go.Proofs.YtmfpaeajibeikaaDoorW.PrintWords

structure Bulks (H:Type) (B:DataW H→Nat) (BA:List (DataW H)→Nat):Prop where
 str:∀ bs,B (.lit (.string bs))=bs.length+1
 int:∀ k n,B (.lit (.int k n))=1
 bool:∀ b,B (.lit (.bool b))=1
 nil:B .nil=1
 slice:∀ es sp,B (.slice es sp)=BA es+BA sp+1
 agg:∀ ps,B (.agg ps)=BA ps+1
 anil:BA []=0
 acons:∀ d r,BA (d :: r)=B d+BA r

def Wt {H:Type} (P:Program) (t:TypeId) (y:DataW H):Prop := ∀ n ∈ DataW.weights P t y,n≤140737488351232
theorem mem_weightsAll {H:Type} {P:Program} {e:TypeId} {n:Nat} : ∀ {ds:List (DataW H)} {d:DataW H},d ∈ ds→n ∈ DataW.weights P e d→n ∈ DataW.weightsAll P e ds
 | d0 :: ds,d,hd,hn=>by
  simp only [DataW.weightsAll,List.mem_append]
  rcases List.mem_cons.1 hd with rfl|h
  ·exact .inl hn
  exact .inr (mem_weightsAll h hn)

def Opens (P:Program) (N:Nat) {α:Type} (t:TypeId) (d:Kd α) (G Z:α→Prop) (bk:α→Nat):Prop:=
 P.cellsOf t=d.sz ∧ ∀ {H:Type} (enc:TypeId × Value→H) (W:World) (fuel:Nat) (cs:List Value) (y:DataW H) (ps:List MemPlace),fuel≤N →
  DataW.trod enc P W 0 (fun _=>true) true fuel t cs=some (y,ps) → ∃ x,d.K W x cs∧G x∧(Wt P t y→Z x) ∧ ∀ B BA,Bulks H B BA→bk x≤B y

theorem opens_int {P:Program} {N:Nat} {t:TypeId} {k:IntKind} (hu:P.underlying t=some (.int k)) (hc:P.cellsOf t=1):Opens P N t (Kd.int k) (fun n=>(Lit.int k n).wf=true) (fun _=>True) (fun _=>1):=by
 refine⟨hc,fun enc W fuel cs y ps _ h=>?_⟩
 obtain ⟨n,rfl,he,hw⟩:=DataW.trod_int hu h
 injection he with he _
 subst he
 exact⟨n,rfl,hw,fun _=>trivial,fun B BA hb=>by rw [hb.int];exact Nat.le_refl _⟩
theorem opens_string {P:Program} {N:Nat} {t:TypeId} (hu:P.underlying t=some .string) (hc:P.cellsOf t=1):Opens P N t Kd.string (fun s=>s.size≤9223372036854775807) (fun s=>s.size≤140737488351232) (fun s=>s.size+1):=by
 refine⟨hc,fun enc W fuel cs y ps _ h=>?_⟩
 obtain ⟨s,rfl,he,hm⟩:=DataW.trod_string hu h
 injection he with he _
 subst he
 exact⟨s,rfl,hm,fun hw=>by have:=hw s.data.toList.length (by simp [DataW.weights]);simpa using this,fun B BA hb=>by rw [hb.str];simp⟩

theorem choose_list {α:Type} (R:Nat→α→Prop):∀ n:Nat,(∀ i,i<n → ∃ x,R i x) → ∃ xs:List α,xs.length=n ∧ ∀ i x,xs[i]? = some x→R i x
 | 0,_=>⟨[],rfl,fun i x h=>by simp at h⟩
 | n+1,h=>by
  obtain ⟨xs,hl,hx⟩:=choose_list R n (fun i hi=>h i (by omega))
  obtain ⟨x,hr⟩:=h n (by omega)
  refine⟨xs ++ [x],by simp [hl],fun i y hy=>?_⟩
  by_cases hi:i<xs.length
  ·rw [List.getElem?_append_left hi] at hy
   exact hx i y hy
  rw [List.getElem?_append_right (by omega)] at hy
  have h0:i - xs.length=0:=by
   rcases Nat.eq_zero_or_pos (i - xs.length) with h0|h0
   ·exact h0
   rw [List.getElem?_eq_none (by simp;omega)] at hy
   cases hy
  rw [h0] at hy
  simp at hy
  subst hy
  rw [show i=n from by omega]
  exact hr
theorem bulk_list {H α:Type} {bk:α→Nat} {B:DataW H→Nat} {BA:List (DataW H)→Nat} (hb:Bulks H B BA):∀ (xs:List α) (ys:List (DataW H × List MemPlace)),xs.length=ys.length→(∀ (i:Nat) (x:α) (y:DataW H × List MemPlace),xs[i]? = some x→ys[i]? = some y→bk x≤B y.1)→(xs.map bk).sum≤BA (ys.map (·.1))
 | [], [],_,_=>by simp [hb.anil]
 | x :: xs,y :: ys,hl,h=>by
  have h0:=h 0 x y rfl rfl
  have ih:=bulk_list hb xs ys (by simpa using hl) (fun i x y hx hy=>h (i+1) x y (by simpa using hx) (by simpa using hy))
  simp only [List.map_cons,List.sum_cons,hb.acons]
  omega
theorem add_add (a:Addr) (i j:Nat):(a.add i).add j=a.add (i+j):=by
 unfold Addr.add
 by_cases h:i=0
 ·subst h;simp
 by_cases h2:j=0
 ·subst h2;simp [h]
 simp [h,h2];omega
theorem opens_slice {P:Program} {N:Nat} {t e:TypeId} {α:Type} {d:Kd α} {G Z:α→Prop} {bk:α→Nat} {b:Nat} (hu:P.underlying t=some (.slice e)) (hc:P.cellsOf t=1) (hbt:P.bytesOf e=b) (h:Opens P N e d G Z bk) :
  Opens P N t (Kd.slice e d) (fun xs=>xs.length≤9223372036854775807 ∧ ∀ x ∈ xs,G x) (fun xs=>xs.length * b≤140737488351232 ∧ ∀ x ∈ xs,Z x) (fun xs=>(xs.map bk).sum+1):=by
 refine⟨hc,fun {H} enc W fuel cs y ps hN hy=>?_⟩
 rcases DataW.trod_slice hu hy with ⟨rfl,he⟩|⟨a,len,cap,elems,rest,n,rfl,rfl,he,_,hl,hm,hel,hat,_⟩
 ·injection he with he _
  subst he
  exact⟨[],⟨none,0,rfl,Nat.le_refl _,rfl,by simp,fun h0=>absurd h0 (by simp)⟩,⟨by simp,fun x hx=>by cases hx⟩,fun _=>⟨by simp,fun x hx=>by cases hx⟩,fun B BA hb=>by rw [hb.nil];simp⟩
 injection he with he _
 subst he
 have hcap:cap≤9223372036854775807:=hm
 have hlen:len≤9223372036854775807:=Nat.le_trans hl hcap
 have hch:=choose_list (α:=α) (fun i x => ∃ c,c.length=d.sz∧d.K W x c∧(∀ j u,c[j]? = some u→W.cell? (a.add (i * d.sz+j))=some u)∧G x∧(∀ y,elems[i]? = some y→Wt P e y.1→Z x) ∧ ∀ y,elems[i]? = some y → ∀ B BA,Bulks H B BA→bk x≤B y.1) len (fun i hi=>by
  have h1:=hat i hi
  have hi2:i<elems.length:=by omega
  rw [List.getElem?_eq_getElem hi2] at h1
  obtain ⟨c,hcs,h2⟩:=Option.bind_eq_some_iff.1 h1
  obtain ⟨x,hK,hG,hZ,hB⟩:=h.2 enc W _ c elems[i].1 elems[i].2 (by omega) h2
  have hcl:=World.cells?_some hcs
  rw [h.1] at hcl
  refine⟨x,c,d.K_len hK,hK,fun j u hu=>?_,hG,fun y hy hw=>?_,fun y hy B BA hb=>?_⟩
  ·have:=hcl.2.2 j (by have:=(List.getElem?_eq_some_iff.1 hu).1;have:=d.K_len hK;omega)
   rw [← add_add]
   rw [this]
   exact hu
  ·rw [List.getElem?_eq_getElem hi2] at hy
   injection hy with hy
   subst hy
   exact hZ hw
  rw [List.getElem?_eq_getElem hi2] at hy
  injection hy with hy
  subst hy
  exact hB B BA hb)
 obtain ⟨xs,hxl,hx⟩:=hch
 refine⟨xs,⟨some a,cap,by rw [hxl],by omega,rfl,by omega,fun _=>⟨a,rfl,fun j p hp=>?_⟩⟩,⟨by omega,fun x hxm=>?_⟩,fun hw=>⟨?_,fun x hxm=>?_⟩,fun B BA hb=>?_⟩
 ·obtain ⟨c,h1,h2,h3,_⟩:=hx j p hp
  exact⟨c,h1,h2,fun i u hu=>h3 i u hu⟩
 ·obtain ⟨i,hi,rfl⟩:=List.getElem_of_mem hxm
  obtain ⟨c,_,_,_,hG,_⟩:=hx i _ (List.getElem?_eq_getElem hi)
  exact hG
 ·have h0:=hw _ (by rw [DataW.weights,hu];exact List.mem_cons_self ..)
  rw [hbt] at h0
  refine Nat.le_trans (Nat.mul_le_mul_right b ?_) h0
  simp
  omega
 ·obtain ⟨i,hi,rfl⟩:=List.getElem_of_mem hxm
  obtain ⟨c,_,_,_,_,hZ,_⟩:=hx i _ (List.getElem?_eq_getElem hi)
  have hie:i<elems.length:=by omega
  refine hZ _ (List.getElem?_eq_getElem hie) (fun n hn=>hw n ?_)
  rw [DataW.weights,hu]
  exact List.mem_cons_of_mem _ (List.mem_append_left _ (mem_weightsAll (List.mem_map.2 ⟨_,List.getElem_mem hie,rfl⟩) hn))
 have hs:=bulk_list (bk:=bk) hb xs elems (by omega) (fun i x y hxi hyi=>by
  obtain ⟨c,_,_,_,_,_,hB⟩:=hx i x hxi
  exact hB y hyi B BA hb)
 rw [hb.slice]
 show(xs.map bk).sum+1≤_
 omega

structure OpensF (P:Program) (N:Nat) {α:Type} (fs:List Field) (off:Nat) (d:Kd α) (G Z:α→Prop) (bk:α→Nat):Prop where
 out:∀ {H:Type} (enc:TypeId × Value→H) (W:World) (fuel:Nat) (cs:List Value) (xs:List (DataW H × List MemPlace)),fuel≤N→off+d.sz≤cs.length→xs.length=fs.length →
  (∀ (i:Nat) (f:Field),fs[i]? = some f→DataW.trod enc P W 0 (fun _=>true) true fuel f.type ((cs.drop f.offset).take (P.cellsOf f.type))=xs[i]?) →
  ∃ x,d.K W x ((cs.drop off).take d.sz)∧G x∧((∀ n ∈ DataW.weightsEach P (fs.map (·.type)) (xs.map (·.1)),n≤140737488351232)→Z x) ∧ ∀ B BA,Bulks H B BA→bk x≤BA (xs.map (·.1))
theorem opensF_one {P:Program} {N:Nat} {α:Type} {f:Field} {off:Nat} {d:Kd α} {G Z:α→Prop} {bk:α→Nat} (ho:f.offset=off) (h:Opens P N f.type d G Z bk):OpensF P N [f] off d G Z bk:=by
 refine⟨?_⟩
 intro H enc W fuel cs xs hN hl hx hf
 have h0:=hf 0 f rfl
 match xs,hx with
 | [x],_=>
  rw [h.1,ho] at h0
  obtain ⟨z,hK,hG,hZ,hB⟩:=h.2 enc W fuel _ x.1 x.2 hN h0
  exact⟨z,hK,hG,fun hw=>hZ (fun n hn=>hw n (by simp only [List.map_cons,List.map_nil,DataW.weightsEach,List.mem_append];exact .inl hn)),fun B BA hb=>by have:=hB B BA hb;simp only [List.map_cons,List.map_nil,hb.acons,hb.anil];omega⟩
theorem opensF_cons {P:Program} {N:Nat} {α β:Type} {f:Field} {fs:List Field} {off:Nat} {d:Kd α} {d2:Kd β} {G Z:α→Prop} {G2 Z2:β→Prop} {bk:α→Nat} {bk2:β→Nat} (ho:f.offset=off) (h:Opens P N f.type d G Z bk) (hr:OpensF P N fs (off+d.sz) d2 G2 Z2 bk2) :
  OpensF P N (f :: fs) off (Kd.pair d d2) (fun x=>G x.1∧G2 x.2) (fun x=>Z x.1∧Z2 x.2) (fun x=>bk x.1+bk2 x.2):=by
 refine⟨?_⟩
 intro H enc W fuel cs xs hN hl hx hf
 have h0:=hf 0 f rfl
 have hsz:(Kd.pair d d2).sz=d.sz+d2.sz:=rfl
 match xs,hx with
 | x :: xs,hx=>
  rw [h.1,ho] at h0
  obtain ⟨z,hK,hG,hZ,hB⟩:=h.2 enc W fuel _ x.1 x.2 hN h0
  obtain ⟨z2,hK2,hG2,hZ2,hB2⟩:=hr.out enc W fuel cs xs hN (by omega) (by simpa using hx) (fun i f hi=>by have:=hf (i+1) f (by simpa using hi);simpa using this)
  refine⟨(z,z2),⟨_,_,?_,hK,hK2⟩,⟨hG,hG2⟩,fun hw=>⟨hZ (fun n hn=>hw n ?_),hZ2 (fun n hn=>hw n ?_)⟩,fun B BA hb=>?_⟩
  ·rw [hsz,List.take_add,List.drop_drop]
  ·simp only [List.map_cons,DataW.weightsEach,List.mem_append];exact .inl hn
  ·simp only [List.map_cons,DataW.weightsEach,List.mem_append];exact .inr hn
  have h1:=hB B BA hb
  have h2:=hB2 B BA hb
  simp only [List.map_cons,hb.acons]
  omega
theorem opens_struct_succ {P:Program} {N:Nat} {t:TypeId} {α:Type} {d:Kd α} {G Z:α→Prop} {bk:α→Nat} {fs:Array Field} (hu:P.underlying t=some (.struct fs)) (hc:P.cellsOf t=d.sz) (h:OpensF P N fs.toList 0 d G Z bk) :
  Opens P (N+1) t d G Z (fun x=>bk x+1):=by
 refine⟨hc,fun {H} enc W fuel cs y ps hN hy=>?_⟩
 obtain ⟨xs,n,rfl,he,hl,hxl,hf⟩:=DataW.trod_struct hu hy
 injection he with he _
 subst he
 rw [hc] at hl
 obtain ⟨x,hK,hG,hZ,hB⟩:=h.out enc W n cs xs (by omega) (by omega) (by simpa using hxl) (fun i f hi=>hf i f (by simpa using hi))
 rw [List.drop_zero, ← hl,List.take_length] at hK
 exact⟨x,hK,hG,fun hw=>hZ (fun n hn=>hw n (by rw [DataW.weights,hu];exact hn)),fun B BA hb=>by have:=hB B BA hb;rw [hb.agg];exact Nat.succ_le_succ this⟩
theorem Opens.le {P:Program} {N M:Nat} {t:TypeId} {α:Type} {d:Kd α} {G Z:α→Prop} {bk:α→Nat} (h:Opens P N t d G Z bk) (hM:M≤N):Opens P M t d G Z bk:=
 ⟨h.1,fun enc W fuel cs y ps hN hy=>h.2 enc W fuel cs y ps (by omega) hy⟩
theorem opens_struct {P:Program} {N:Nat} {t:TypeId} {α:Type} {d:Kd α} {G Z:α→Prop} {bk:α→Nat} {fs:Array Field} (hu:P.underlying t=some (.struct fs)) (hc:P.cellsOf t=d.sz) (h:OpensF P N fs.toList 0 d G Z bk) :
  Opens P N t d G Z (fun x=>bk x+1):=(opens_struct_succ hu hc h).le (by omega)
theorem opens_iso {P:Program} {N:Nat} {t:TypeId} {α β:Type} {d:Kd α} {G Z:α→Prop} {bk:α→Nat} (h:Opens P N t d G Z bk) (f:β→α) (g:α→β) (hfg:∀ x,f (g x)=x):Opens P N t (Kd.iso d f) (fun y=>G (f y)) (fun y=>Z (f y)) (fun y=>bk (f y)):=by
 refine⟨h.1,fun {H} enc W fuel cs y ps hN hy=>?_⟩
 obtain ⟨x,hK,hG,hZ,hB⟩:=h.2 enc W fuel cs y ps hN hy
 refine⟨g x,?_,by show G (f (g x));rw [hfg];exact hG,fun hw=>by show Z (f (g x));rw [hfg];exact hZ hw,fun B BA hb=>by show bk (f (g x))≤B y;rw [hfg];exact hB B BA hb⟩
 show d.K W (f (g x)) cs
 rw [hfg];exact hK
theorem opened {P:Program} {t:TypeId} {α:Type} {d:Kd α} {G Z:α→Prop} {bk:α→Nat} (h:∀ N,Opens P N t d G Z bk) {H:Type} {enc:TypeId × Value→H} {W:World} {v:Value} {y:DataW H} {ps:List MemPlace}
  (ht:DataW.Trod enc P W 0 (fun _=>true) true t v y ps):∃ x,d.K W x v.cells.toList∧G x∧(Wt P t y→Z x) ∧ ∀ B BA,Bulks H B BA→bk x≤B y:=by
 obtain ⟨fuel,hf⟩:=ht
 exact(h fuel).2 enc W fuel _ y ps (Nat.le_refl _) hf
theorem wt_of {H:Type} {P:Program} {ts:List TypeId} {ds:List (DataW H)} {j:Nat} {t:TypeId} {d:DataW H} (h:(DataW.weightsEach P ts ds).all (· ≤ reachBytes)=true) (ht:ts[j]? = some t) (hd:ds[j]? = some d):Wt P t d:=
 fun n hn=>of_decide_eq_true (List.all_eq_true.1 h n (DataW.weights_mem_each ht hd n hn))
theorem places_lt {P:Program} {t:TypeId} {H:Type} {enc:TypeId × Value→H} {W:World} {v:Value} {y:DataW H} {ps:List MemPlace}
  (ht:DataW.Trod enc P W 0 (fun _=>true) true t v y ps):∀ x ∈ ps,x.block<W.heap.size:=by
 obtain ⟨m,hm⟩:=ht
 exact DataW.trod_lt m _ _ _ hm
def Folds {α β:Type} (F:Kd α→Kd α) (sz:Nat) (E:List Nat) (hs:∀ n,(Kd.upto F sz E n).sz=sz) (hE:∀ n q,q ∈ (Kd.upto F sz E n).E→q ∈ E) (G:Kd α→Kd β):Prop:=
 Kd.Mono G∧(∀ n m,(G (Kd.upto F sz E n)).sz=(G (Kd.upto F sz E m)).sz) ∧ ∀ {w x cs},(G (Kd.fix F sz E hs hE)).K w x cs → ∃ n,(G (Kd.upto F sz E n)).K w x cs
section
variable {α β γ:Type} {F:Kd α→Kd α} {sz:Nat} {E:List Nat} {hs:∀ n,(Kd.upto F sz E n).sz=sz} {hE:∀ n q,q ∈ (Kd.upto F sz E n).E→q ∈ E}
theorem folds_const (k:Kd β):Folds F sz E hs hE (fun _=>k):=⟨Kd.zj6 k,fun _ _=>rfl,fun h=>⟨0,h⟩⟩
theorem folds_slice (hm:Kd.Mono F) (e:Nat):Folds F sz E hs hE (fun d=>Kd.slice e d):=⟨Kd.mono_slice e Kd.mono_id,fun _ _=>rfl,fun h=>by
 obtain ⟨A,c,rfl,hl,hc⟩:=h
 obtain ⟨n,hn⟩:=Kd.fix_C_back hm hc
 exact⟨n,A,c,rfl,hl,hn⟩⟩
theorem folds_pair (hm:Kd.Mono F) {G:Kd α→Kd β} {K:Kd α→Kd γ} (hG:Folds F sz E hs hE G) (hH:Folds F sz E hs hE K):Folds F sz E hs hE (fun d=>Kd.pair (G d) (K d)):=by
 refine⟨Kd.zxa hG.1 hH.1,fun n m=>?_,fun h=>?_⟩
 ·show(G _).sz+(K _).sz=(G _).sz+(K _).sz
  rw [hG.2.1 n m,hH.2.1 n m]
 obtain ⟨c0,c1,rfl,h0,h1⟩:=h
 obtain ⟨n,hn⟩:=hG.2.2 h0
 obtain ⟨m,hm'⟩:=hH.2.2 h1
 have up:∀ {a b:Nat},a≤b → ∀ w x cs,(Kd.upto F sz E a).K w x cs→(Kd.upto F sz E b).K w x cs:=fun hab _ _ _ h=>Kd.zkh hm hs hab h
 exact⟨max n m,c0,c1,rfl,hG.1.K _ _ (by rw [hs,hs]) (up (Nat.le_max_left n m)) _ _ _ hn,hH.1.K _ _ (by rw [hs,hs]) (up (Nat.le_max_right n m)) _ _ _ hm'⟩
theorem folds_iso {G:Kd α→Kd β} (f:γ→β) (hG:Folds F sz E hs hE G):Folds F sz E hs hE (fun d=>Kd.iso (G d) f):=
 ⟨Kd.mono_iso f hG.1,hG.2.1,fun h=>hG.2.2 h⟩
theorem fold_fix (h:Folds F sz E hs hE F) {w x cs} (hk:(F (Kd.fix F sz E hs hE)).K w x cs):(Kd.fix F sz E hs hE).K w x cs:=by
 obtain ⟨n,hn⟩:=h.2.2 hk
 exact⟨n+1,hn⟩
end
end Go.Proofs.YtmfpaeajibeikaaDoor.Op
