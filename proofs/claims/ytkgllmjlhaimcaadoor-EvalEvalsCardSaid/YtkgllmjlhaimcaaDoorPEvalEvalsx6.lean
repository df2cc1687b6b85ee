-- Written by wip/pp of this repo (over the kit's print, with additions of this session); Lean checks every line.
import Derived.Test.YtkgllmjlhaimcaaDoorPEvalEvalsx5
namespace Go.Proofs.YtkgllmjlhaimcaaDoor.PEvalEvals
open Go.RowKit Go.Proofs.YtkgllmjlhaimcaaDoorW.PrintWords Go.Proofs.YtkgllmjlhaimcaaDoorW.PrintLast Go.Proofs.YtkgllmjlhaimcaaDoorW.PrintMore
attribute [local go_sem] zje zjc zjo zjn zq4 zq3 zjd zjb   -- for this text's walks alone
set_option linter.unusedVariables false
set_option linter.unusedSimpArgs false

/-! ### zj: function 41, by hand -/
-- HAND rounds=1 making=1 laid=1 func=1 alone=1 after=78 after=70 after=81 after=82 after=28 after=83 after=84 imports=Derived.Deep.QuietTactic,Derived.BigQuiet,Derived.Deep.RegionHeld3,Derived.Deep.RegionWith
def zj.v (p:Int × Int × ByteArray × Int):S23:=⟨p.1,p.2.1,p.2.2.1⟩
def zj.rest (f:S26→Option (Int × Int × ByteArray × Int)) (mk:S23→S23→Option (Int × Int × ByteArray × Int)):Nat→S23→S23→List S26→Option (Int × Int × ByteArray × Int)
  | _,a,b, []=>mk a b
  | i,a,b,s :: r=>if 2≤i then none else (f s).bind fun p=>if p.2.2.2=0 then zj.rest f mk (i+1) (if i=0 then zj.v p else a) (if i=0 then b else zj.v p) r else some p
def zj.lz (f:S26→Option (Int × Int × ByteArray × Int)) (k:Nat) (z:Int) (fold:List Int→Option (Int × Int)):Nat→Int→Int→List S26→Option (Int × Int × ByteArray × Int)
  | _,a,b, []=>(fold [a,b]).bind fun q=>zqw.f k q.1 q.2
  | i,a,b,s :: r=>if 2≤i then none else (f s).bind fun p=>if p.2.2.2=0 then(zqx.f k p.1 p.2.1 p.2.2.1).bind fun q=>if q.2=0 then(if i=0∧q.1=z then zqk.f k z else zj.lz f k z fold (i+1) (if i=0 then q.1 else a) (if i=0 then b else q.1) r) else some (0,0,⟨#[]⟩,q.2) else some p
def zj.ev (row:List S23) (k:Nat):Nat→S26→Option (Int × Int × ByteArray × Int)
  | 0,_=>none
  | n+1,e=>if e.f0=3 then(if 0≤e.f4∧e.f4<row.length then some ((zqc row e.f4).f0,(zqc row e.f4).f1,(zqc row e.f4).f2,0) else none) else if e.f0=1 then some (e.f1.f0,e.f1.f1,e.f1.f2,0) else
      if e.f0=19 then zj.lz (zj.ev row k n) k 0 zqj.f 0 0 0 e.f5 else if e.f0=20 then zj.lz (zj.ev row k n) k 2 zqp.f 0 0 0 e.f5 else
      zj.rest (zj.ev row k n) (zy.of k e.f0) 0 ⟨0,0,⟨#[]⟩⟩ ⟨0,0,⟨#[]⟩⟩ e.f5
def zj.f (_k:Nat) (_a:Int):Option Bool:=none
theorem zj.mono:∀ a0 k,LeO (zj.f k a0) (zj.f (k+1) a0):=fun _ _=>LeO.refl _
theorem zj.mono_rest {f g:S26→Option (Int × Int × ByteArray × Int)} {m m':S23→S23→Option (Int × Int × ByteArray × Int)} (hf:∀ x,LeO (f x) (g x)) (hm:∀ x y,LeO (m x y) (m' x y)):∀ l i a b,LeO (zj.rest f m i a b l) (zj.rest g m' i a b l)
  | [],_,a,b=>hm a b
  | s :: r,i,a,b=>by
    unfold zj.rest
    exact LeO.ite (LeO.refl _) (LeO.bind (hf s) (fun p=>LeO.ite (zj.mono_rest hf hm r _ _ _) (LeO.refl _)))
theorem zj.mono_lz {f g:S26→Option (Int × Int × ByteArray × Int)} (k:Nat) (z:Int) (fold:List Int→Option (Int × Int)) (hf:∀ x,LeO (f x) (g x)):∀ l i a b,LeO (zj.lz f k z fold i a b l) (zj.lz g (k+1) z fold i a b l)
  | [],_,a,b=>LeO.bind (LeO.refl _) (fun q=>zqw.mono _ _ _)
  | s :: r,i,a,b=>by
    unfold zj.lz
    exact LeO.ite (LeO.refl _) (LeO.bind (hf s) (fun p=>LeO.ite (LeO.bind (zqx.mono _ _ _ _) (fun q=>LeO.ite (LeO.ite (zqk.mono _ _) (zj.mono_lz k z fold hf r _ _ _)) (LeO.refl _))) (LeO.refl _)))
theorem zj.mono_ev (row:List S23) (k:Nat):∀ n e,LeO (zj.ev row k n e) (zj.ev row (k+1) n e)
  | 0,_=>LeO.refl _
  | n+1,e=>by
    unfold zj.ev
    have ih:=zj.mono_ev row k n
    exact LeO.ite (LeO.refl _) (LeO.ite (LeO.refl _) (LeO.ite (zj.mono_lz _ _ _ ih _ _ _ _) (LeO.ite (zj.mono_lz _ _ _ ih _ _ _ _) (zj.mono_rest ih (fun x y=>zy.mono_of _ _ _ _) _ _ _ _))))
def zj.Env (row:List S23) (g:Nat) (w:World):Prop:=LD w ∧ ∃ A c,w.cell? ⟨g,0,none⟩=some (.slice A row.length c)∧Kd.C k23 w A row.length row
theorem zj.Env.ld {row:List S23} {g:Nat} {w:World} (h:zj.Env row g w):LD w:=h.1
theorem zj.Env.below {row:List S23} {g:Nat} {w w':World} (h:zj.Env row g w) (hb:Below w.heap.size w w'):zj.Env row g w':=by
  obtain ⟨hL,A,c,h1,h2⟩:=h
  exact⟨LD.below hL hb,A,c,ze hb h1,Kd.zqe h2 hb⟩
abbrev zj.w0 (e:S26) (A7:Option Addr) (c7:Nat) (w:World):World:=(w.alloc (.cells #[.int .i64 e.f0,.int .i64 e.f1.f0,.int .i64 e.f1.f1,.string e.f1.f2,.string e.f2,.string e.f3,.int .i64 e.f4,.slice A7 e.f5.length c7] 63)).alloc (.cells #[.int .i64 0,.int .i64 0,.string ⟨#[]⟩] 23)
structure zj.Kp (e:S26) (A7:Option Addr) (c7:Nat) (w W:World):Prop where mk :: (c0:W.cell? ⟨w.heap.size,0,none⟩=some (.int .i64 e.f0)) (c1:W.cell? ⟨w.heap.size,1,none⟩=some (.int .i64 e.f1.f0)) (c2:W.cell? ⟨w.heap.size,2,none⟩=some (.int .i64 e.f1.f1)) (c3:W.cell? ⟨w.heap.size,3,none⟩=some (.string e.f1.f2)) (c4:W.cell? ⟨w.heap.size,4,none⟩=some (.string e.f2)) (c5:W.cell? ⟨w.heap.size,5,none⟩=some (.string e.f3)) (c6:W.cell? ⟨w.heap.size,6,none⟩=some (.int .i64 e.f4)) (c7:W.cell? ⟨w.heap.size,7,none⟩=some (.slice A7 e.f5.length c7)) (c8:W.cell? ⟨w.heap.size+1,0,none⟩=some (.int .i64 0)) (c9:W.cell? ⟨w.heap.size+1,1,none⟩=some (.int .i64 0)) (c10:W.cell? ⟨w.heap.size+1,2,none⟩=some (.string ⟨#[]⟩)) (c11:W.frozen? ⟨w.heap.size+1,0,none⟩=false) (c12:W.frozen? ⟨w.heap.size+1,1,none⟩=false) (c13:W.frozen? ⟨w.heap.size+1,2,none⟩=false) (c14:w.heap.size<W.heap.size) (c15:w.heap.size+1<W.heap.size)
theorem zj.zq1 {e:S26} {A7:Option Addr} {c7:Nat} {w:World} : (zj.w0 e A7 c7 w).heap.size=w.heap.size+1+1:=by simp [zj.w0]
theorem zj.hz {e:S26} {A7:Option Addr} {c7:Nat} {w W:World} (hb:Below (zj.w0 e A7 c7 w).heap.size (zj.w0 e A7 c7 w) W):W.heap[w.heap.size+1]? = some (.cells #[.int .i64 0,.int .i64 0,.string ⟨#[]⟩] 23 (0,0)):=by
  have q_:(w.alloc (.cells #[.int .i64 e.f0,.int .i64 e.f1.f0,.int .i64 e.f1.f1,.string e.f1.f2,.string e.f2,.string e.f3,.int .i64 e.f4,.slice A7 e.f5.length c7] 63)).heap.size=w.heap.size+1:=by simp
  have h:=zjy (w.alloc (.cells #[.int .i64 e.f0,.int .i64 e.f1.f0,.int .i64 e.f1.f1,.string e.f1.f2,.string e.f2,.string e.f3,.int .i64 e.f4,.slice A7 e.f5.length c7] 63)) (.cells #[.int .i64 0,.int .i64 0,.string ⟨#[]⟩] 23)
  rw [q_] at h
  exact zl h hb
theorem zj.hr {e:S26} {A7:Option Addr} {c7:Nat} {w W:World} (hb:Below (zj.w0 e A7 c7 w).heap.size (zj.w0 e A7 c7 w) W):Below w.heap.size w W:=by
  have h0:Below w.heap.size w (zj.w0 e A7 c7 w):=zn (zn (Below.refl _ _) _) _
  exact h0.trans (hb.mono h0.size)
theorem zj.kp {e:S26} {A7:Option Addr} {c7:Nat} {w W:World} (hb:Below (zj.w0 e A7 c7 w).heap.size (zj.w0 e A7 c7 w) W):zj.Kp e A7 c7 w W:=by
  have hs:=hb.size
  rw [zj.zq1] at hs
  exact⟨ze hb (by simp [go_sem]),ze hb (by simp [go_sem]),ze hb (by simp [go_sem]),ze hb (by simp [go_sem]),ze hb (by simp [go_sem]),ze hb (by simp [go_sem]),ze hb (by simp [go_sem]),ze hb (by simp [go_sem]),ze hb (by simp [go_sem]),ze hb (by simp [go_sem]),ze hb (by simp [go_sem]),qj (zj.hz hb) 0,qj (zj.hz hb) 1,qj (zj.hz hb) 2,by omega,by omega⟩
theorem zj.new1 (W:World) (o o2:Obj):((W.alloc o).alloc o2).heap[W.heap.size+1]? = some o2:=by
  have q_:(W.alloc o).heap.size=W.heap.size+1:=by simp
  have h:=zjy (W.alloc o) o2
  rwa [q_] at h
set_option maxRecDepth 100000 in
set_option maxHeartbeats 4000000 in
theorem zj.of_no (e:S26) (A7:Option Addr) (c7 g:Nat) (w:World) (h3:e.f0≠3) :
    Calls Tryd.prog 42 #[.agg #[.int .i64 e.f0,.int .i64 e.f1.f0,.int .i64 e.f1.f1,.string e.f1.f2,.string e.f2,.string e.f3,.int .i64 e.f4,.slice A7 e.f5.length c7],.pointer (some ⟨g,0,none⟩)] w fun r w'=>r = .returned (.tuple #[.agg #[.int .i64 0,.int .i64 0,.string ⟨#[]⟩],.int .i64 0,.bool false])∧Below w.heap.size w w':=by
  have huv:=Tryd.underlying23
  have d3:(e.f0 != 3)=true:=by simpa using h3
  have hz:((w.alloc (.cells #[.int .i64 e.f0,.int .i64 e.f1.f0,.int .i64 e.f1.f1,.string e.f1.f2,.string e.f2,.string e.f3,.int .i64 e.f4,.slice A7 e.f5.length c7] 26)).alloc (.cells #[.int .i64 0,.int .i64 0,.string ⟨#[]⟩] 23)).heap[w.heap.size+1]? = some (.cells #[.int .i64 0,.int .i64 0,.string ⟨#[]⟩] 23 (0,0)):=by
    have q_:(w.alloc (.cells #[.int .i64 e.f0,.int .i64 e.f1.f0,.int .i64 e.f1.f1,.string e.f1.f2,.string e.f2,.string e.f3,.int .i64 e.f4,.slice A7 e.f5.length c7] 26)).heap.size=w.heap.size+1:=by simp
    have h:=zjy (w.alloc (.cells #[.int .i64 e.f0,.int .i64 e.f1.f0,.int .i64 e.f1.f1,.string e.f1.f2,.string e.f2,.string e.f3,.int .i64 e.f4,.slice A7 e.f5.length c7] 26)) (.cells #[.int .i64 0,.int .i64 0,.string ⟨#[]⟩] 23)
    rwa [q_] at h
  have HZ:=zq.mk hz
  clear h3 hz
  go_enter Tryd.func42,Tryd.ntmps42
  go_wp2
  have HVX:=HZ.out
  refine bodyPost_ret (qx (rs := [.cell 3 23,.tmp 4,.tmp 5]) rfl (by simp) (.cell (w.heap.size+1) 23 _ (0,0) _ rfl HVX huv rfl (by kernel_rfl) (.tmp (.tmp .nil)))) rfl ?_
  exact⟨rfl,zn (zn (Below.refl _ _) _) _⟩
theorem zj.vat {w:World} {A:Option Addr} {l:List S23} (h:Kd.C k23 w A l.length l) (i:Int) (h0:0≤i) (h1:i<l.length):∃ b o,A=some ⟨b,o,none⟩∧w.cell? ⟨b,o+i.toNat * 3,none⟩=some (.int .i64 (zqc l i).f0)∧w.cell? ⟨b,o+i.toNat * 3+1,none⟩=some (.int .i64 (zqc l i).f1)∧w.cell? ⟨b,o+i.toNat * 3+2,none⟩=some (.string (zqc l i).f2):=by
  have spot:∀ ad:Addr,(∃ v,w.cell? ad=some v)→ad.spot=none:=by
    rintro ⟨b,o,sp⟩ ⟨v,hv⟩
    cases sp with
    | none=>rfl
    | some s=>
      exfalso
      unfold World.cell? at hv
      split at hv
      · simp at hv
      cases hv
  obtain ⟨ad,rfl,g0,_⟩:=zxg h 0 (by omega) (by omega)
  have hs:ad.spot=none:=by
    rw [show ad.add ((0:Int).toNat * 3)=ad from by simp [Addr.add]] at g0
    exact spot _ ⟨_,g0⟩
  obtain ⟨b,o,sp⟩:=ad
  dsimp only at hs
  subst hs
  refine⟨b,o,rfl,?_⟩
  obtain ⟨ad,e,g0,g1,g2⟩:=zxg h i h0 h1
  cases e
  have ha:(⟨b,o,none⟩:Addr).add (i.toNat * 3)=⟨b,o+i.toNat * 3,none⟩:=by unfold Addr.add;split <;> simp_all
  rw [ha] at g0 g1 g2
  exact⟨g0,g1,g2⟩
set_option maxRecDepth 100000 in
set_option maxHeartbeats 4000000 in
theorem zj.of_yes (row:List S23) (e:S26) (A7:Option Addr) (c7 g:Nat) (w:World) (he:zj.Env row g w) (h3:e.f0=3) (h0:0≤e.f4) (h1:e.f4<row.length) :
    Calls Tryd.prog 42 #[.agg #[.int .i64 e.f0,.int .i64 e.f1.f0,.int .i64 e.f1.f1,.string e.f1.f2,.string e.f2,.string e.f3,.int .i64 e.f4,.slice A7 e.f5.length c7],.pointer (some ⟨g,0,none⟩)] w fun r w'=>r = .returned (.tuple #[.agg #[.int .i64 (zqc row e.f4).f0,.int .i64 (zqc row e.f4).f1,.string (zqc row e.f4).f2],.int .i64 0,.bool true])∧Below w.heap.size w w':=by
  have huv:=Tryd.underlying23
  have d3:(e.f0 != 3)=false:=by simpa using h3
  obtain ⟨_,A,c,hg,hc⟩:=he
  obtain ⟨b,o,rfl,c0,c1,c2⟩:=zj.vat hc e.f4 h0 h1
  have hgl:g<w.heap.size:=World.block_lt_of_cell? w _ hg
  have hbl:b<w.heap.size:=World.block_lt_of_cell? w _ c0
  have hm:=hc.2.1
  obtain ⟨i,hi⟩:∃ i:Nat,e.f4=i:=⟨e.f4.toNat,by omega⟩
  generalize zqc row e.f4=x at *
  rw [hi,Int.toNat_natCast] at c0 c1 c2
  have hil:i<row.length:=by omega
  obtain ⟨e0,e1,e2,e3,e4,e5⟩:=e
  dsimp only at *
  subst hi
  clear h3 hc h0 h1
  go_enter Tryd.func42,Tryd.ntmps42
  go_wp2
  have HVX:=zj.new1 w (.cells #[.int .i64 e0,.int .i64 e1.f0,.int .i64 e1.f1,.string e1.f2,.string e2,.string e3,.int .i64 i,.slice A7 e5.length c7] 26) (.cells #[.int .i64 x.f0,.int .i64 x.f1,.string x.f2] 23)
  refine bodyPost_ret (qx (rs := [.cell 3 23,.tmp 4,.tmp 5]) rfl (by simp) (.cell (w.heap.size+1) 23 _ (0,0) _ rfl HVX huv rfl (by kernel_rfl) (.tmp (.tmp .nil)))) rfl ?_
  exact⟨rfl,zn (zn (Below.refl _ _) _) _⟩
theorem zj.made (row:List S23) (A:Option Addr) (n c:Nat) (w:World):Calls Tryd.prog 22 #[.slice A n c] w fun x w'=>x = .returned (.func (.func 42) #[] #[.pointer (some ⟨w.heap.size,0,none⟩)])∧w'=w.alloc (.cells #[.slice A n c] 27):=by
  go_enter Tryd.func22,Tryd.ntmps22
  go_wp2
  go_ret
  exact⟨rfl,rfl⟩
theorem zj.zxw (W:World) (a b:Int):Kd.C (Kd.int .i64) (W.alloc (.cells #[.int .i64 a,.int .i64 b] 3)) (some ⟨W.heap.size,0,none⟩) 2 [a,b]:=by
  refine⟨rfl,by decide,fun _=>⟨_,rfl,fun j p hj=>⟨[.int .i64 p],rfl,rfl,fun i u hu=>?_⟩⟩⟩
  obtain ⟨rfl,rfl⟩:i=0 ∧ .int .i64 p=u:=by
    cases i with
    | zero=>exact⟨rfl,by simpa using hu⟩
    | succ i=>simp at hu
  match j,hj with
  | 0,hj=>
    obtain rfl:a=p:=by simpa using hj
    simp [go_sem,Addr.add,Kd.int,Kd.scalar]
  | 1,hj=>
    obtain rfl:b=p:=by simpa using hj
    simp [go_sem,Addr.add,Kd.int,Kd.scalar]
  | j+2,hj=>simp at hj
set_option maxRecDepth 100000 in
set_option maxHeartbeats 16000000 in
theorem zj.lazy_19 (row:List S23) (k:Nat) (f:S26→Option (Int × Int × ByteArray × Int)) (g:Nat) (hi:∀ (x:S26) (A8:Option Addr) (c8:Nat) (q1 q2:Int) (q3:ByteArray) (q4:Int) (W:World),zj.Env row g W→Kd.C k26 W A8 x.f5.length x.f5→x.f5.length≤c8→f x=some (q1,q2,q3,q4)→Calls Tryd.prog 41 #[.agg #[.int .i64 x.f0,.int .i64 x.f1.f0,.int .i64 x.f1.f1,.string x.f1.f2,.string x.f2,.string x.f3,.int .i64 x.f4,.slice A8 x.f5.length c8],.func (.func 42) #[] #[.pointer (some ⟨g,0,none⟩)]] W fun e w'=>e = .returned (.tuple #[.agg #[.int .i64 q1,.int .i64 q2,.string q3],.int .i64 q4])∧Below W.heap.size W w')
    (e:S26) (A7:Option Addr) (c7:Nat) (r1 r2:Int) (r3:ByteArray) (r4:Int) (w:World) (he:zj.Env row g w) (hr:Kd.C k26 w A7 e.f5.length e.f5) (hc:e.f5.length≤c7) (ho:e.f0=19) (h:zj.lz f k 0 zqj.f 0 0 0 e.f5=some (r1,r2,r3,r4)) :
    Calls Tryd.prog 69 #[.agg #[.int .i64 e.f0,.int .i64 e.f1.f0,.int .i64 e.f1.f1,.string e.f1.f2,.string e.f2,.string e.f3,.int .i64 e.f4,.slice A7 e.f5.length c7],.func (.func 42) #[] #[.pointer (some ⟨g,0,none⟩)]] w fun e w'=>e = .returned (.tuple #[.agg #[.int .i64 r1,.int .i64 r2,.string r3],.int .i64 r4])∧Below w.heap.size w w':=by
  have huv:=Tryd.underlying23
  have hm:=hr.2.1
  have d20:(e.f0 == 20)=false:=by simp [ho]
  have HE:=zq.mk he
  have HRR:=zq.mk hr
  have HII:=zq.mk hi
  have HS:=zq.mk h
  clear he hr hi ho h
  go_enter Tryd.func69,Tryd.ntmps69
  go_wp2
  go_loopw [19] (fun i wr => ∃ j:Nat,j≤e.f5.length∧i = .int .i64 j ∧ ∃ a b:Int,zq (zj.lz f k 0 zqj.f j a b (e.f5.drop j)=some (r1,r2,r3,r4))∧zq (Below (zj.w0 e A7 c7 w).heap.size (zj.w0 e A7 c7 w) wr)∧zq (wr.heap[w.heap.size+1+1]? = some (.cells #[.int .i64 a,.int .i64 b] 106 (0,0)))) (fun i _=>e.f5.length - (intOf i).toNat)
  case atStart=>exact⟨0,by omega,rfl,0,0,⟨by rw [List.drop_zero];exact HS.out⟩,⟨zn (Below.refl _ _) _⟩,⟨by have h:=zjy (zj.w0 e A7 c7 w) (.cells #[.int .i64 0,.int .i64 0] 106);rwa [zj.zq1] at h⟩⟩
  case round=>
    clear HS
    obtain ⟨j,hj,rfl,a,b,HS,HB,HG⟩:=hrel
    by_cases hlt:j<e.f5.length
    · cases zj.kp HB.out
      have hgl:=qd HG.out
      obtain ⟨bb,oo,rfl,hcs⟩:=qq.at_ (Kd.zqe HRR.out (zj.hr HB.out)) (by omega)
      obtain ⟨A8,c8,p0,p1,p2,p3,p4,p5,p6,p7,l8,r8⟩:=hcs j hlt
      have hs:=HS.out
      rw [List.drop_eq_getElem_cons hlt,zj.lz] at hs
      by_cases j2:2≤j
      · rw [if_pos j2] at hs;cases hs
      rw [if_neg j2] at hs
      generalize e.f5[j]=x at *
      obtain ⟨⟨q1,q2,q3,q4⟩,hq,ht⟩:=Option.bind_eq_some_iff.1 hs
      clear hs
      dsimp only at ht
      have hs:=ht
      clear ht
      have hba:=zn (Below.refl wr.heap.size wr) (.cells #[.int .i64 x.f0,.int .i64 x.f1.f0,.int .i64 x.f1.f1,.string x.f1.f2,.string x.f2,.string x.f3,.int .i64 x.f4,.slice A8 x.f5.length c8] 26)
      have HCA:=zq.mk (HII.out x A8 c8 q1 q2 q3 q4 _ ((HE.out.below (zj.hr HB.out)).below hba) (Kd.zqe r8 hba) l8 hq)
      have HBA:=zq.mk (zn HB.out (.cells #[.int .i64 x.f0,.int .i64 x.f1.f0,.int .i64 x.f1.f1,.string x.f1.f2,.string x.f2,.string x.f3,.int .i64 x.f4,.slice A8 x.f5.length c8] 26))
      have HGA:=zq.mk (zg HG.out (.cells #[.int .i64 x.f0,.int .i64 x.f1.f0,.int .i64 x.f1.f1,.string x.f1.f2,.string x.f2,.string x.f3,.int .i64 x.f4,.slice A8 x.f5.length c8] 26))
      clear hba hq r8 hcs HS
      by_cases z:q4=0
      · rw [if_pos z] at hs
        subst z
        obtain ⟨⟨u,v⟩,hu,hs⟩:=Option.bind_eq_some_iff.1 hs
        dsimp only at hs
        have HU:=zq.mk hu
        clear hu
        by_cases y:v=0
        · rw [if_pos y] at hs
          subst y
          obtain rfl|rfl:j=0∨j=1:=by omega
          · simp only [Nat.zero_mul,Nat.add_zero] at p0 p1 p2 p3 p4 p5 p6 p7
            by_cases t:u=0
            · rw [if_pos ⟨rfl,t⟩] at hs
              have dt:(u == 0)=true:=by simpa using t
              have HO:=zq.mk hs
              clear hs t
              go_wp2_with (first|(go_at_call 41;(with_reducible refine HCA.out.mono ?_);rintro z w4 ⟨rfl,hb4⟩;have HB4:=zq.mk (HBA.out.trans (hb4.mono HBA.out.size));have HG4:=zq.mk ((hb4.block _ (qd HGA.out)).trans HGA.out);clear hb4;cases zj.kp HB4.out;have hl4:=qd HG4.out;have y4_0:w4.cell? ⟨w.heap.size+1+1,0,none⟩=some (.int .i64 a):=(zh HG4.out 0).trans rfl;have z4_0:=qj HG4.out 0;have y4_1:w4.cell? ⟨w.heap.size+1+1,1,none⟩=some (.int .i64 b):=(zh HG4.out 1).trans rfl;have z4_1:=qj HG4.out 1)|(go_at_call 28;(with_reducible refine(zqx.calls k _ _ _ u _ _ (LD.below HE.out.ld (zj.hr (zn HB4.out _))) HU.out).mono ?_);rintro z w5 ⟨rfl,hb5⟩;have HB5:=zq.mk ((zn HB4.out _).trans (hb5.mono (zn HB4.out _).size));have HG5:=zq.mk ((hb5.block _ (qd (zg HG4.out _))).trans (zg HG4.out _));clear hb5;cases zj.kp HB5.out;have hl5:=qd HG5.out;have y5_0:w5.cell? ⟨w.heap.size+1+1,0,none⟩=some (.int .i64 a):=(zh HG5.out 0).trans rfl;have z5_0:=qj HG5.out 0;have y5_1:w5.cell? ⟨w.heap.size+1+1,1,none⟩=some (.int .i64 b):=(zh HG5.out 1).trans rfl;have z5_1:=qj HG5.out 1)|(go_at_call 83;(with_reducible refine(zqk.calls k _ r1 r2 r3 r4 _ HO.out).mono ?_);rintro z w6 ⟨rfl,hb6⟩;have HB6:=zq.mk ((HB5.out.setCell (p:=⟨w.heap.size+1+1,0,none⟩) (Nat.le_of_eq zj.zq1) _).trans (hb6.mono (HB5.out.setCell (p:=⟨w.heap.size+1+1,0,none⟩) (Nat.le_of_eq zj.zq1) _).size));clear hb6;cases zj.kp HB6.out))
              have HVX:=(zr (zr (zr (zj.hz HB6.out) 0 (.int .i64 r1) rfl) 1 (.int .i64 r2) rfl) 2 (.string r3) rfl)
              refine bodyPost_ret (qx (rs := [.cell 4 23,.tmp 5]) rfl (by simp) (.cell (w.heap.size+1) 23 _ (0,0) _ rfl HVX huv rfl (by kernel_rfl) (.tmp .nil))) rfl ?_
              exact⟨rfl,(((zj.hr HB6.out).setCell (p:=⟨w.heap.size+1,0,none⟩) (by simp <;> omega) _).setCell (p:=⟨w.heap.size+1,1,none⟩) (by simp <;> omega) _).setCell (p:=⟨w.heap.size+1,2,none⟩) (by simp <;> omega) _⟩
            rw [if_neg (fun h_=>t h_.2),if_pos rfl,if_pos rfl] at hs
            have dt:(u == 0)=false:=by simpa using t
            have HS:=zq.mk hs
            clear hs t
            go_wp2_with (first|(go_at_call 41;(with_reducible refine HCA.out.mono ?_);rintro z w4 ⟨rfl,hb4⟩;have HB4:=zq.mk (HBA.out.trans (hb4.mono HBA.out.size));have HG4:=zq.mk ((hb4.block _ (qd HGA.out)).trans HGA.out);clear hb4;cases zj.kp HB4.out;have hl4:=qd HG4.out;have y4_0:w4.cell? ⟨w.heap.size+1+1,0,none⟩=some (.int .i64 a):=(zh HG4.out 0).trans rfl;have z4_0:=qj HG4.out 0;have y4_1:w4.cell? ⟨w.heap.size+1+1,1,none⟩=some (.int .i64 b):=(zh HG4.out 1).trans rfl;have z4_1:=qj HG4.out 1)|(go_at_call 28;(with_reducible refine(zqx.calls k _ _ _ u _ _ (LD.below HE.out.ld (zj.hr (zn HB4.out _))) HU.out).mono ?_);rintro z w5 ⟨rfl,hb5⟩;have HB5:=zq.mk ((zn HB4.out _).trans (hb5.mono (zn HB4.out _).size));have HG5:=zq.mk ((hb5.block _ (qd (zg HG4.out _))).trans (zg HG4.out _));clear hb5;cases zj.kp HB5.out;have hl5:=qd HG5.out;have y5_0:w5.cell? ⟨w.heap.size+1+1,0,none⟩=some (.int .i64 a):=(zh HG5.out 0).trans rfl;have z5_0:=qj HG5.out 0;have y5_1:w5.cell? ⟨w.heap.size+1+1,1,none⟩=some (.int .i64 b):=(zh HG5.out 1).trans rfl;have z5_1:=qj HG5.out 1))
            go_roundw
            case rel=>exact⟨1,by omega,by go_num,u,b,HS,⟨HB5.out.setCell (p:=⟨w.heap.size+1+1,0,none⟩) (Nat.le_of_eq zj.zq1) (.int .i64 u)⟩,⟨zr HG5.out 0 (.int .i64 u) rfl⟩⟩
            case measure=>simp [intOf];omega
          rw [if_neg (fun h_=>by cases h_.1),if_neg (by decide),if_neg (by decide)] at hs
          have HS:=zq.mk hs
          clear hs
          go_wp2_with (first|(go_at_call 41;(with_reducible refine HCA.out.mono ?_);rintro z w4 ⟨rfl,hb4⟩;have HB4:=zq.mk (HBA.out.trans (hb4.mono HBA.out.size));have HG4:=zq.mk ((hb4.block _ (qd HGA.out)).trans HGA.out);clear hb4;cases zj.kp HB4.out;have hl4:=qd HG4.out;have y4_0:w4.cell? ⟨w.heap.size+1+1,0,none⟩=some (.int .i64 a):=(zh HG4.out 0).trans rfl;have z4_0:=qj HG4.out 0;have y4_1:w4.cell? ⟨w.heap.size+1+1,1,none⟩=some (.int .i64 b):=(zh HG4.out 1).trans rfl;have z4_1:=qj HG4.out 1)|(go_at_call 28;(with_reducible refine(zqx.calls k _ _ _ u _ _ (LD.below HE.out.ld (zj.hr (zn HB4.out _))) HU.out).mono ?_);rintro z w5 ⟨rfl,hb5⟩;have HB5:=zq.mk ((zn HB4.out _).trans (hb5.mono (zn HB4.out _).size));have HG5:=zq.mk ((hb5.block _ (qd (zg HG4.out _))).trans (zg HG4.out _));clear hb5;cases zj.kp HB5.out;have hl5:=qd HG5.out;have y5_0:w5.cell? ⟨w.heap.size+1+1,0,none⟩=some (.int .i64 a):=(zh HG5.out 0).trans rfl;have z5_0:=qj HG5.out 0;have y5_1:w5.cell? ⟨w.heap.size+1+1,1,none⟩=some (.int .i64 b):=(zh HG5.out 1).trans rfl;have z5_1:=qj HG5.out 1))
          go_roundw
          case rel=>exact⟨2,by omega,by go_num,a,u,HS,⟨HB5.out.setCell (p:=⟨w.heap.size+1+1,1,none⟩) (Nat.le_of_eq zj.zq1) (.int .i64 u)⟩,⟨zr HG5.out 1 (.int .i64 u) rfl⟩⟩
          case measure=>simp [intOf];omega
        rw [if_neg y] at hs
        obtain ⟨rfl,rfl,rfl,rfl⟩:0=r1∧0=r2∧(⟨#[]⟩:ByteArray)=r3∧v=r4:=by simpa using hs
        have dy:(v != 0)=true:=by simpa using y
        clear hs y
        obtain rfl|rfl:j=0∨j=1:=by omega
        · simp only [Nat.zero_mul,Nat.add_zero] at p0 p1 p2 p3 p4 p5 p6 p7
          go_wp2_with (first|(go_at_call 41;(with_reducible refine HCA.out.mono ?_);rintro z w4 ⟨rfl,hb4⟩;have HB4:=zq.mk (HBA.out.trans (hb4.mono HBA.out.size));have HG4:=zq.mk ((hb4.block _ (qd HGA.out)).trans HGA.out);clear hb4;cases zj.kp HB4.out;have hl4:=qd HG4.out;have y4_0:w4.cell? ⟨w.heap.size+1+1,0,none⟩=some (.int .i64 a):=(zh HG4.out 0).trans rfl;have z4_0:=qj HG4.out 0;have y4_1:w4.cell? ⟨w.heap.size+1+1,1,none⟩=some (.int .i64 b):=(zh HG4.out 1).trans rfl;have z4_1:=qj HG4.out 1)|(go_at_call 28;(with_reducible refine(zqx.calls k _ _ _ u _ _ (LD.below HE.out.ld (zj.hr (zn HB4.out _))) HU.out).mono ?_);rintro z w5 ⟨rfl,hb5⟩;have HB5:=zq.mk ((zn HB4.out _).trans (hb5.mono (zn HB4.out _).size));have HG5:=zq.mk ((hb5.block _ (qd (zg HG4.out _))).trans (zg HG4.out _));clear hb5;cases zj.kp HB5.out;have hl5:=qd HG5.out;have y5_0:w5.cell? ⟨w.heap.size+1+1,0,none⟩=some (.int .i64 a):=(zh HG5.out 0).trans rfl;have z5_0:=qj HG5.out 0;have y5_1:w5.cell? ⟨w.heap.size+1+1,1,none⟩=some (.int .i64 b):=(zh HG5.out 1).trans rfl;have z5_1:=qj HG5.out 1))
          have HVX:=(zr (zr (zr (zj.hz (HB5.out.setCell (p:=⟨w.heap.size+1+1,0,none⟩) (Nat.le_of_eq zj.zq1) (.int .i64 u))) 0 (.int .i64 0) rfl) 1 (.int .i64 0) rfl) 2 (.string ⟨#[]⟩) rfl)
          refine bodyPost_ret (qx (rs := [.cell 4 23,.tmp 5]) rfl (by simp) (.cell (w.heap.size+1) 23 _ (0,0) _ rfl HVX huv rfl (by kernel_rfl) (.tmp .nil))) rfl ?_
          exact⟨rfl,(((zj.hr (HB5.out.setCell (p:=⟨w.heap.size+1+1,0,none⟩) (Nat.le_of_eq zj.zq1) (.int .i64 u))).setCell (p:=⟨w.heap.size+1,0,none⟩) (by simp <;> omega) _).setCell (p:=⟨w.heap.size+1,1,none⟩) (by simp <;> omega) _).setCell (p:=⟨w.heap.size+1,2,none⟩) (by simp <;> omega) _⟩
        go_wp2_with (first|(go_at_call 41;(with_reducible refine HCA.out.mono ?_);rintro z w4 ⟨rfl,hb4⟩;have HB4:=zq.mk (HBA.out.trans (hb4.mono HBA.out.size));have HG4:=zq.mk ((hb4.block _ (qd HGA.out)).trans HGA.out);clear hb4;cases zj.kp HB4.out;have hl4:=qd HG4.out;have y4_0:w4.cell? ⟨w.heap.size+1+1,0,none⟩=some (.int .i64 a):=(zh HG4.out 0).trans rfl;have z4_0:=qj HG4.out 0;have y4_1:w4.cell? ⟨w.heap.size+1+1,1,none⟩=some (.int .i64 b):=(zh HG4.out 1).trans rfl;have z4_1:=qj HG4.out 1)|(go_at_call 28;(with_reducible refine(zqx.calls k _ _ _ u _ _ (LD.below HE.out.ld (zj.hr (zn HB4.out _))) HU.out).mono ?_);rintro z w5 ⟨rfl,hb5⟩;have HB5:=zq.mk ((zn HB4.out _).trans (hb5.mono (zn HB4.out _).size));have HG5:=zq.mk ((hb5.block _ (qd (zg HG4.out _))).trans (zg HG4.out _));clear hb5;cases zj.kp HB5.out;have hl5:=qd HG5.out;have y5_0:w5.cell? ⟨w.heap.size+1+1,0,none⟩=some (.int .i64 a):=(zh HG5.out 0).trans rfl;have z5_0:=qj HG5.out 0;have y5_1:w5.cell? ⟨w.heap.size+1+1,1,none⟩=some (.int .i64 b):=(zh HG5.out 1).trans rfl;have z5_1:=qj HG5.out 1))
        have HVX:=(zr (zr (zr (zj.hz (HB5.out.setCell (p:=⟨w.heap.size+1+1,1,none⟩) (Nat.le_of_eq zj.zq1) (.int .i64 u))) 0 (.int .i64 0) rfl) 1 (.int .i64 0) rfl) 2 (.string ⟨#[]⟩) rfl)
        refine bodyPost_ret (qx (rs := [.cell 4 23,.tmp 5]) rfl (by simp) (.cell (w.heap.size+1) 23 _ (0,0) _ rfl HVX huv rfl (by kernel_rfl) (.tmp .nil))) rfl ?_
        exact⟨rfl,(((zj.hr (HB5.out.setCell (p:=⟨w.heap.size+1+1,1,none⟩) (Nat.le_of_eq zj.zq1) (.int .i64 u))).setCell (p:=⟨w.heap.size+1,0,none⟩) (by simp <;> omega) _).setCell (p:=⟨w.heap.size+1,1,none⟩) (by simp <;> omega) _).setCell (p:=⟨w.heap.size+1,2,none⟩) (by simp <;> omega) _⟩
      rw [if_neg z] at hs
      obtain ⟨rfl,rfl,rfl,rfl⟩:q1=r1∧q2=r2∧q3=r3∧q4=r4:=by simpa using hs
      have dz:(q4 != 0)=true:=by simpa using z
      clear hs z
      go_wp2_with (go_at_call 41;(with_reducible refine HCA.out.mono ?_);rintro z w4 ⟨rfl,hb4⟩;have HB4:=zq.mk (HBA.out.trans (hb4.mono HBA.out.size));have HG4:=zq.mk ((hb4.block _ (qd HGA.out)).trans HGA.out);clear hb4;cases zj.kp HB4.out;have hl4:=qd HG4.out;have y4_0:w4.cell? ⟨w.heap.size+1+1,0,none⟩=some (.int .i64 a):=(zh HG4.out 0).trans rfl;have z4_0:=qj HG4.out 0;have y4_1:w4.cell? ⟨w.heap.size+1+1,1,none⟩=some (.int .i64 b):=(zh HG4.out 1).trans rfl;have z4_1:=qj HG4.out 1)
      have HVX:=zg (zr (zr (zr (zj.hz HB4.out) 0 (.int .i64 q1) rfl) 1 (.int .i64 q2) rfl) 2 (.string q3) rfl) (.cells #[.int .i64 q1,.int .i64 q2,.string q3] 23)
      refine bodyPost_ret (qx (rs := [.cell 4 23,.tmp 5]) rfl (by simp) (.cell (w.heap.size+1) 23 _ (0,0) _ rfl HVX huv rfl (by kernel_rfl) (.tmp .nil))) rfl ?_
      exact⟨rfl,zn ((((zj.hr HB4.out).setCell (p:=⟨w.heap.size+1,0,none⟩) (by simp) _).setCell (p:=⟨w.heap.size+1,1,none⟩) (by simp) _).setCell (p:=⟨w.heap.size+1,2,none⟩) (by simp) _) _⟩
    obtain rfl:j=e.f5.length:=by omega
    have hs:=HS.out
    rw [List.drop_length,zj.lz] at hs
    obtain ⟨⟨u,v⟩,hu,hs⟩:=Option.bind_eq_some_iff.1 hs
    have HF:zq (Calls Tryd.prog 81 #[.slice (some ⟨wr.heap.size,0,none⟩) 2 2] (wr.alloc (.cells #[.int .i64 a,.int .i64 b] 3)) fun e w'=>e = .returned (.tuple #[.int .i64 u,.int .i64 v])∧zu (wr.alloc (.cells #[.int .i64 a,.int .i64 b] 3)) w'):=⟨zqj.calls (some ⟨wr.heap.size,0,none⟩) 2 [a,b] u v _ (zj.zxw wr a b) (Nat.le_refl _) hu⟩
    have HT:=zq.mk hs
    have hl:=qd HG.out
    have y0:wr.cell? ⟨w.heap.size+1+1,0,none⟩=some (.int .i64 a):=(zh HG.out 0).trans rfl
    have y1:wr.cell? ⟨w.heap.size+1+1,1,none⟩=some (.int .i64 b):=(zh HG.out 1).trans rfl
    clear HS hs hu
    go_wp2_with (first|(go_at_call 81;(with_reducible refine HF.out.mono ?_);rintro z w4 ⟨rfl,hd⟩;have HB4:=zq.mk ((zn HB.out _).trans (hd.below.mono (zn HB.out _).size));clear hd;cases zj.kp HB4.out)|(go_at_call 84;(with_reducible refine(zqw.calls k _ _ r1 r2 r3 r4 _ HT.out).mono ?_);rintro z w5 ⟨rfl,hb5⟩;have HB5:=zq.mk (HB4.out.trans (hb5.mono HB4.out.size));clear hb5;cases zj.kp HB5.out))
    have HVX:=(zr (zr (zr (zj.hz HB5.out) 0 (.int .i64 r1) rfl) 1 (.int .i64 r2) rfl) 2 (.string r3) rfl)
    refine bodyPost_ret (qx (rs := [.cell 4 23,.tmp 5]) rfl (by simp) (.cell (w.heap.size+1) 23 _ (0,0) _ rfl HVX huv rfl (by kernel_rfl) (.tmp .nil))) rfl ?_
    exact⟨rfl,(((zj.hr HB5.out).setCell (p:=⟨w.heap.size+1,0,none⟩) (by simp <;> omega) _).setCell (p:=⟨w.heap.size+1,1,none⟩) (by simp <;> omega) _).setCell (p:=⟨w.heap.size+1,2,none⟩) (by simp <;> omega) _⟩
set_option maxRecDepth 100000 in
set_option maxHeartbeats 16000000 in
theorem zj.lazy_20 (row:List S23) (k:Nat) (f:S26→Option (Int × Int × ByteArray × Int)) (g:Nat) (hi:∀ (x:S26) (A8:Option Addr) (c8:Nat) (q1 q2:Int) (q3:ByteArray) (q4:Int) (W:World),zj.Env row g W→Kd.C k26 W A8 x.f5.length x.f5→x.f5.length≤c8→f x=some (q1,q2,q3,q4)→Calls Tryd.prog 41 #[.agg #[.int .i64 x.f0,.int .i64 x.f1.f0,.int .i64 x.f1.f1,.string x.f1.f2,.string x.f2,.string x.f3,.int .i64 x.f4,.slice A8 x.f5.length c8],.func (.func 42) #[] #[.pointer (some ⟨g,0,none⟩)]] W fun e w'=>e = .returned (.tuple #[.agg #[.int .i64 q1,.int .i64 q2,.string q3],.int .i64 q4])∧Below W.heap.size W w')
    (e:S26) (A7:Option Addr) (c7:Nat) (r1 r2:Int) (r3:ByteArray) (r4:Int) (w:World) (he:zj.Env row g w) (hr:Kd.C k26 w A7 e.f5.length e.f5) (hc:e.f5.length≤c7) (ho:e.f0=20) (h:zj.lz f k 2 zqp.f 0 0 0 e.f5=some (r1,r2,r3,r4)) :
    Calls Tryd.prog 69 #[.agg #[.int .i64 e.f0,.int .i64 e.f1.f0,.int .i64 e.f1.f1,.string e.f1.f2,.string e.f2,.string e.f3,.int .i64 e.f4,.slice A7 e.f5.length c7],.func (.func 42) #[] #[.pointer (some ⟨g,0,none⟩)]] w fun e w'=>e = .returned (.tuple #[.agg #[.int .i64 r1,.int .i64 r2,.string r3],.int .i64 r4])∧Below w.heap.size w w':=by
  have huv:=Tryd.underlying23
  have hm:=hr.2.1
  have d20:(e.f0 == 20)=true:=by simp [ho]
  have HE:=zq.mk he
  have HRR:=zq.mk hr
  have HII:=zq.mk hi
  have HS:=zq.mk h
  clear he hr hi ho h
  go_enter Tryd.func69,Tryd.ntmps69
  go_wp2
  go_loopw [19] (fun i wr => ∃ j:Nat,j≤e.f5.length∧i = .int .i64 j ∧ ∃ a b:Int,zq (zj.lz f k 2 zqp.f j a b (e.f5.drop j)=some (r1,r2,r3,r4))∧zq (Below (zj.w0 e A7 c7 w).heap.size (zj.w0 e A7 c7 w) wr)∧zq (wr.heap[w.heap.size+1+1]? = some (.cells #[.int .i64 a,.int .i64 b] 106 (0,0)))) (fun i _=>e.f5.length - (intOf i).toNat)
  case atStart=>exact⟨0,by omega,rfl,0,0,⟨by rw [List.drop_zero];exact HS.out⟩,⟨zn (Below.refl _ _) _⟩,⟨by have h:=zjy (zj.w0 e A7 c7 w) (.cells #[.int .i64 0,.int .i64 0] 106);rwa [zj.zq1] at h⟩⟩
  case round=>
    clear HS
    obtain ⟨j,hj,rfl,a,b,HS,HB,HG⟩:=hrel
    by_cases hlt:j<e.f5.length
    · cases zj.kp HB.out
      have hgl:=qd HG.out
      obtain ⟨bb,oo,rfl,hcs⟩:=qq.at_ (Kd.zqe HRR.out (zj.hr HB.out)) (by omega)
      obtain ⟨A8,c8,p0,p1,p2,p3,p4,p5,p6,p7,l8,r8⟩:=hcs j hlt
      have hs:=HS.out
      rw [List.drop_eq_getElem_cons hlt,zj.lz] at hs
      by_cases j2:2≤j
      · rw [if_pos j2] at hs;cases hs
      rw [if_neg j2] at hs
      generalize e.f5[j]=x at *
      obtain ⟨⟨q1,q2,q3,q4⟩,hq,ht⟩:=Option.bind_eq_some_iff.1 hs
      clear hs
      dsimp only at ht
      have hs:=ht
      clear ht
      have hba:=zn (Below.refl wr.heap.size wr) (.cells #[.int .i64 x.f0,.int .i64 x.f1.f0,.int .i64 x.f1.f1,.string x.f1.f2,.string x.f2,.string x.f3,.int .i64 x.f4,.slice A8 x.f5.length c8] 26)
      have HCA:=zq.mk (HII.out x A8 c8 q1 q2 q3 q4 _ ((HE.out.below (zj.hr HB.out)).below hba) (Kd.zqe r8 hba) l8 hq)
      have HBA:=zq.mk (zn HB.out (.cells #[.int .i64 x.f0,.int .i64 x.f1.f0,.int .i64 x.f1.f1,.string x.f1.f2,.string x.f2,.string x.f3,.int .i64 x.f4,.slice A8 x.f5.length c8] 26))
      have HGA:=zq.mk (zg HG.out (.cells #[.int .i64 x.f0,.int .i64 x.f1.f0,.int .i64 x.f1.f1,.string x.f1.f2,.string x.f2,.string x.f3,.int .i64 x.f4,.slice A8 x.f5.length c8] 26))
      clear hba hq r8 hcs HS
      by_cases z:q4=0
      · rw [if_pos z] at hs
        subst z
        obtain ⟨⟨u,v⟩,hu,hs⟩:=Option.bind_eq_some_iff.1 hs
        dsimp only at hs
        have HU:=zq.mk hu
        clear hu
        by_cases y:v=0
        · rw [if_pos y] at hs
          subst y
          obtain rfl|rfl:j=0∨j=1:=by omega
          · simp only [Nat.zero_mul,Nat.add_zero] at p0 p1 p2 p3 p4 p5 p6 p7
            by_cases t:u=2
            · rw [if_pos ⟨rfl,t⟩] at hs
              have dt:(u == 2)=true:=by simpa using t
              have HO:=zq.mk hs
              clear hs t
              go_wp2_with (first|(go_at_call 41;(with_reducible refine HCA.out.mono ?_);rintro z w4 ⟨rfl,hb4⟩;have HB4:=zq.mk (HBA.out.trans (hb4.mono HBA.out.size));have HG4:=zq.mk ((hb4.block _ (qd HGA.out)).trans HGA.out);clear hb4;cases zj.kp HB4.out;have hl4:=qd HG4.out;have y4_0:w4.cell? ⟨w.heap.size+1+1,0,none⟩=some (.int .i64 a):=(zh HG4.out 0).trans rfl;have z4_0:=qj HG4.out 0;have y4_1:w4.cell? ⟨w.heap.size+1+1,1,none⟩=some (.int .i64 b):=(zh HG4.out 1).trans rfl;have z4_1:=qj HG4.out 1)|(go_at_call 28;(with_reducible refine(zqx.calls k _ _ _ u _ _ (LD.below HE.out.ld (zj.hr (zn HB4.out _))) HU.out).mono ?_);rintro z w5 ⟨rfl,hb5⟩;have HB5:=zq.mk ((zn HB4.out _).trans (hb5.mono (zn HB4.out _).size));have HG5:=zq.mk ((hb5.block _ (qd (zg HG4.out _))).trans (zg HG4.out _));clear hb5;cases zj.kp HB5.out;have hl5:=qd HG5.out;have y5_0:w5.cell? ⟨w.heap.size+1+1,0,none⟩=some (.int .i64 a):=(zh HG5.out 0).trans rfl;have z5_0:=qj HG5.out 0;have y5_1:w5.cell? ⟨w.heap.size+1+1,1,none⟩=some (.int .i64 b):=(zh HG5.out 1).trans rfl;have z5_1:=qj HG5.out 1)|(go_at_call 83;(with_reducible refine(zqk.calls k _ r1 r2 r3 r4 _ HO.out).mono ?_);rintro z w6 ⟨rfl,hb6⟩;have HB6:=zq.mk ((HB5.out.setCell (p:=⟨w.heap.size+1+1,0,none⟩) (Nat.le_of_eq zj.zq1) _).trans (hb6.mono (HB5.out.setCell (p:=⟨w.heap.size+1+1,0,none⟩) (Nat.le_of_eq zj.zq1) _).size));clear hb6;cases zj.kp HB6.out))
              have HVX:=(zr (zr (zr (zj.hz HB6.out) 0 (.int .i64 r1) rfl) 1 (.int .i64 r2) rfl) 2 (.string r3) rfl)
              refine bodyPost_ret (qx (rs := [.cell 4 23,.tmp 5]) rfl (by simp) (.cell (w.heap.size+1) 23 _ (0,0) _ rfl HVX huv rfl (by kernel_rfl) (.tmp .nil))) rfl ?_
              exact⟨rfl,(((zj.hr HB6.out).setCell (p:=⟨w.heap.size+1,0,none⟩) (by simp <;> omega) _).setCell (p:=⟨w.heap.size+1,1,none⟩) (by simp <;> omega) _).setCell (p:=⟨w.heap.size+1,2,none⟩) (by simp <;> omega) _⟩
            rw [if_neg (fun h_=>t h_.2),if_pos rfl,if_pos rfl] at hs
            have dt:(u == 2)=false:=by simpa using t
            have HS:=zq.mk hs
            clear hs t
            go_wp2_with (first|(go_at_call 41;(with_reducible refine HCA.out.mono ?_);rintro z w4 ⟨rfl,hb4⟩;have HB4:=zq.mk (HBA.out.trans (hb4.mono HBA.out.size));have HG4:=zq.mk ((hb4.block _ (qd HGA.out)).trans HGA.out);clear hb4;cases zj.kp HB4.out;have hl4:=qd HG4.out;have y4_0:w4.cell? ⟨w.heap.size+1+1,0,none⟩=some (.int .i64 a):=(zh HG4.out 0).trans rfl;have z4_0:=qj HG4.out 0;have y4_1:w4.cell? ⟨w.heap.size+1+1,1,none⟩=some (.int .i64 b):=(zh HG4.out 1).trans rfl;have z4_1:=qj HG4.out 1)|(go_at_call 28;(with_reducible refine(zqx.calls k _ _ _ u _ _ (LD.below HE.out.ld (zj.hr (zn HB4.out _))) HU.out).mono ?_);rintro z w5 ⟨rfl,hb5⟩;have HB5:=zq.mk ((zn HB4.out _).trans (hb5.mono (zn HB4.out _).size));have HG5:=zq.mk ((hb5.block _ (qd (zg HG4.out _))).trans (zg HG4.out _));clear hb5;cases zj.kp HB5.out;have hl5:=qd HG5.out;have y5_0:w5.cell? ⟨w.heap.size+1+1,0,none⟩=some (.int .i64 a):=(zh HG5.out 0).trans rfl;have z5_0:=qj HG5.out 0;have y5_1:w5.cell? ⟨w.heap.size+1+1,1,none⟩=some (.int .i64 b):=(zh HG5.out 1).trans rfl;have z5_1:=qj HG5.out 1))
            go_roundw
            case rel=>exact⟨1,by omega,by go_num,u,b,HS,⟨HB5.out.setCell (p:=⟨w.heap.size+1+1,0,none⟩) (Nat.le_of_eq zj.zq1) (.int .i64 u)⟩,⟨zr HG5.out 0 (.int .i64 u) rfl⟩⟩
            case measure=>simp [intOf];omega
          rw [if_neg (fun h_=>by cases h_.1),if_neg (by decide),if_neg (by decide)] at hs
          have HS:=zq.mk hs
          clear hs
          go_wp2_with (first|(go_at_call 41;(with_reducible refine HCA.out.mono ?_);rintro z w4 ⟨rfl,hb4⟩;have HB4:=zq.mk (HBA.out.trans (hb4.mono HBA.out.size));have HG4:=zq.mk ((hb4.block _ (qd HGA.out)).trans HGA.out);clear hb4;cases zj.kp HB4.out;have hl4:=qd HG4.out;have y4_0:w4.cell? ⟨w.heap.size+1+1,0,none⟩=some (.int .i64 a):=(zh HG4.out 0).trans rfl;have z4_0:=qj HG4.out 0;have y4_1:w4.cell? ⟨w.heap.size+1+1,1,none⟩=some (.int .i64 b):=(zh HG4.out 1).trans rfl;have z4_1:=qj HG4.out 1)|(go_at_call 28;(with_reducible refine(zqx.calls k _ _ _ u _ _ (LD.below HE.out.ld (zj.hr (zn HB4.out _))) HU.out).mono ?_);rintro z w5 ⟨rfl,hb5⟩;have HB5:=zq.mk ((zn HB4.out _).trans (hb5.mono (zn HB4.out _).size));have HG5:=zq.mk ((hb5.block _ (qd (zg HG4.out _))).trans (zg HG4.out _));clear hb5;cases zj.kp HB5.out;have hl5:=qd HG5.out;have y5_0:w5.cell? ⟨w.heap.size+1+1,0,none⟩=some (.int .i64 a):=(zh HG5.out 0).trans rfl;have z5_0:=qj HG5.out 0;have y5_1:w5.cell? ⟨w.heap.size+1+1,1,none⟩=some (.int .i64 b):=(zh HG5.out 1).trans rfl;have z5_1:=qj HG5.out 1))
          go_roundw
          case rel=>exact⟨2,by omega,by go_num,a,u,HS,⟨HB5.out.setCell (p:=⟨w.heap.size+1+1,1,none⟩) (Nat.le_of_eq zj.zq1) (.int .i64 u)⟩,⟨zr HG5.out 1 (.int .i64 u) rfl⟩⟩
          case measure=>simp [intOf];omega
        rw [if_neg y] at hs
        obtain ⟨rfl,rfl,rfl,rfl⟩:0=r1∧0=r2∧(⟨#[]⟩:ByteArray)=r3∧v=r4:=by simpa using hs
        have dy:(v != 0)=true:=by simpa using y
        clear hs y
        obtain rfl|rfl:j=0∨j=1:=by omega
        · simp only [Nat.zero_mul,Nat.add_zero] at p0 p1 p2 p3 p4 p5 p6 p7
          go_wp2_with (first|(go_at_call 41;(with_reducible refine HCA.out.mono ?_);rintro z w4 ⟨rfl,hb4⟩;have HB4:=zq.mk (HBA.out.trans (hb4.mono HBA.out.size));have HG4:=zq.mk ((hb4.block _ (qd HGA.out)).trans HGA.out);clear hb4;cases zj.kp HB4.out;have hl4:=qd HG4.out;have y4_0:w4.cell? ⟨w.heap.size+1+1,0,none⟩=some (.int .i64 a):=(zh HG4.out 0).trans rfl;have z4_0:=qj HG4.out 0;have y4_1:w4.cell? ⟨w.heap.size+1+1,1,none⟩=some (.int .i64 b):=(zh HG4.out 1).trans rfl;have z4_1:=qj HG4.out 1)|(go_at_call 28;(with_reducible refine(zqx.calls k _ _ _ u _ _ (LD.below HE.out.ld (zj.hr (zn HB4.out _))) HU.out).mono ?_);rintro z w5 ⟨rfl,hb5⟩;have HB5:=zq.mk ((zn HB4.out _).trans (hb5.mono (zn HB4.out _).size));have HG5:=zq.mk ((hb5.block _ (qd (zg HG4.out _))).trans (zg HG4.out _));clear hb5;cases zj.kp HB5.out;have hl5:=qd HG5.out;have y5_0:w5.cell? ⟨w.heap.size+1+1,0,none⟩=some (.int .i64 a):=(zh HG5.out 0).trans rfl;have z5_0:=qj HG5.out 0;have y5_1:w5.cell? ⟨w.heap.size+1+1,1,none⟩=some (.int .i64 b):=(zh HG5.out 1).trans rfl;have z5_1:=qj HG5.out 1))
          have HVX:=(zr (zr (zr (zj.hz (HB5.out.setCell (p:=⟨w.heap.size+1+1,0,none⟩) (Nat.le_of_eq zj.zq1) (.int .i64 u))) 0 (.int .i64 0) rfl) 1 (.int .i64 0) rfl) 2 (.string ⟨#[]⟩) rfl)
          refine bodyPost_ret (qx (rs := [.cell 4 23,.tmp 5]) rfl (by simp) (.cell (w.heap.size+1) 23 _ (0,0) _ rfl HVX huv rfl (by kernel_rfl) (.tmp .nil))) rfl ?_
          exact⟨rfl,(((zj.hr (HB5.out.setCell (p:=⟨w.heap.size+1+1,0,none⟩) (Nat.le_of_eq zj.zq1) (.int .i64 u))).setCell (p:=⟨w.heap.size+1,0,none⟩) (by simp <;> omega) _).setCell (p:=⟨w.heap.size+1,1,none⟩) (by simp <;> omega) _).setCell (p:=⟨w.heap.size+1,2,none⟩) (by simp <;> omega) _⟩
        go_wp2_with (first|(go_at_call 41;(with_reducible refine HCA.out.mono ?_);rintro z w4 ⟨rfl,hb4⟩;have HB4:=zq.mk (HBA.out.trans (hb4.mono HBA.out.size));have HG4:=zq.mk ((hb4.block _ (qd HGA.out)).trans HGA.out);clear hb4;cases zj.kp HB4.out;have hl4:=qd HG4.out;have y4_0:w4.cell? ⟨w.heap.size+1+1,0,none⟩=some (.int .i64 a):=(zh HG4.out 0).trans rfl;have z4_0:=qj HG4.out 0;have y4_1:w4.cell? ⟨w.heap.size+1+1,1,none⟩=some (.int .i64 b):=(zh HG4.out 1).trans rfl;have z4_1:=qj HG4.out 1)|(go_at_call 28;(with_reducible refine(zqx.calls k _ _ _ u _ _ (LD.below HE.out.ld (zj.hr (zn HB4.out _))) HU.out).mono ?_);rintro z w5 ⟨rfl,hb5⟩;have HB5:=zq.mk ((zn HB4.out _).trans (hb5.mono (zn HB4.out _).size));have HG5:=zq.mk ((hb5.block _ (qd (zg HG4.out _))).trans (zg HG4.out _));clear hb5;cases zj.kp HB5.out;have hl5:=qd HG5.out;have y5_0:w5.cell? ⟨w.heap.size+1+1,0,none⟩=some (.int .i64 a):=(zh HG5.out 0).trans rfl;have z5_0:=qj HG5.out 0;have y5_1:w5.cell? ⟨w.heap.size+1+1,1,none⟩=some (.int .i64 b):=(zh HG5.out 1).trans rfl;have z5_1:=qj HG5.out 1))
        have HVX:=(zr (zr (zr (zj.hz (HB5.out.setCell (p:=⟨w.heap.size+1+1,1,none⟩) (Nat.le_of_eq zj.zq1) (.int .i64 u))) 0 (.int .i64 0) rfl) 1 (.int .i64 0) rfl) 2 (.string ⟨#[]⟩) rfl)
        refine bodyPost_ret (qx (rs := [.cell 4 23,.tmp 5]) rfl (by simp) (.cell (w.heap.size+1) 23 _ (0,0) _ rfl HVX huv rfl (by kernel_rfl) (.tmp .nil))) rfl ?_
        exact⟨rfl,(((zj.hr (HB5.out.setCell (p:=⟨w.heap.size+1+1,1,none⟩) (Nat.le_of_eq zj.zq1) (.int .i64 u))).setCell (p:=⟨w.heap.size+1,0,none⟩) (by simp <;> omega) _).setCell (p:=⟨w.heap.size+1,1,none⟩) (by simp <;> omega) _).setCell (p:=⟨w.heap.size+1,2,none⟩) (by simp <;> omega) _⟩
      rw [if_neg z] at hs
      obtain ⟨rfl,rfl,rfl,rfl⟩:q1=r1∧q2=r2∧q3=r3∧q4=r4:=by simpa using hs
      have dz:(q4 != 0)=true:=by simpa using z
      clear hs z
      go_wp2_with (go_at_call 41;(with_reducible refine HCA.out.mono ?_);rintro z w4 ⟨rfl,hb4⟩;have HB4:=zq.mk (HBA.out.trans (hb4.mono HBA.out.size));have HG4:=zq.mk ((hb4.block _ (qd HGA.out)).trans HGA.out);clear hb4;cases zj.kp HB4.out;have hl4:=qd HG4.out;have y4_0:w4.cell? ⟨w.heap.size+1+1,0,none⟩=some (.int .i64 a):=(zh HG4.out 0).trans rfl;have z4_0:=qj HG4.out 0;have y4_1:w4.cell? ⟨w.heap.size+1+1,1,none⟩=some (.int .i64 b):=(zh HG4.out 1).trans rfl;have z4_1:=qj HG4.out 1)
      have HVX:=zg (zr (zr (zr (zj.hz HB4.out) 0 (.int .i64 q1) rfl) 1 (.int .i64 q2) rfl) 2 (.string q3) rfl) (.cells #[.int .i64 q1,.int .i64 q2,.string q3] 23)
      refine bodyPost_ret (qx (rs := [.cell 4 23,.tmp 5]) rfl (by simp) (.cell (w.heap.size+1) 23 _ (0,0) _ rfl HVX huv rfl (by kernel_rfl) (.tmp .nil))) rfl ?_
      exact⟨rfl,zn ((((zj.hr HB4.out).setCell (p:=⟨w.heap.size+1,0,none⟩) (by simp) _).setCell (p:=⟨w.heap.size+1,1,none⟩) (by simp) _).setCell (p:=⟨w.heap.size+1,2,none⟩) (by simp) _) _⟩
    obtain rfl:j=e.f5.length:=by omega
    have hs:=HS.out
    rw [List.drop_length,zj.lz] at hs
    obtain ⟨⟨u,v⟩,hu,hs⟩:=Option.bind_eq_some_iff.1 hs
    have HF:zq (Calls Tryd.prog 82 #[.slice (some ⟨wr.heap.size,0,none⟩) 2 2] (wr.alloc (.cells #[.int .i64 a,.int .i64 b] 3)) fun e w'=>e = .returned (.tuple #[.int .i64 u,.int .i64 v])∧zu (wr.alloc (.cells #[.int .i64 a,.int .i64 b] 3)) w'):=⟨zqp.calls (some ⟨wr.heap.size,0,none⟩) 2 [a,b] u v _ (zj.zxw wr a b) (Nat.le_refl _) hu⟩
    have HT:=zq.mk hs
    have hl:=qd HG.out
    have y0:wr.cell? ⟨w.heap.size+1+1,0,none⟩=some (.int .i64 a):=(zh HG.out 0).trans rfl
    have y1:wr.cell? ⟨w.heap.size+1+1,1,none⟩=some (.int .i64 b):=(zh HG.out 1).trans rfl
    clear HS hs hu
    go_wp2_with (first|(go_at_call 82;(with_reducible refine HF.out.mono ?_);rintro z w4 ⟨rfl,hd⟩;have HB4:=zq.mk ((zn HB.out _).trans (hd.below.mono (zn HB.out _).size));clear hd;cases zj.kp HB4.out)|(go_at_call 84;(with_reducible refine(zqw.calls k _ _ r1 r2 r3 r4 _ HT.out).mono ?_);rintro z w5 ⟨rfl,hb5⟩;have HB5:=zq.mk (HB4.out.trans (hb5.mono HB4.out.size));clear hb5;cases zj.kp HB5.out))
    have HVX:=(zr (zr (zr (zj.hz HB5.out) 0 (.int .i64 r1) rfl) 1 (.int .i64 r2) rfl) 2 (.string r3) rfl)
    refine bodyPost_ret (qx (rs := [.cell 4 23,.tmp 5]) rfl (by simp) (.cell (w.heap.size+1) 23 _ (0,0) _ rfl HVX huv rfl (by kernel_rfl) (.tmp .nil))) rfl ?_
    exact⟨rfl,(((zj.hr HB5.out).setCell (p:=⟨w.heap.size+1,0,none⟩) (by simp <;> omega) _).setCell (p:=⟨w.heap.size+1,1,none⟩) (by simp <;> omega) _).setCell (p:=⟨w.heap.size+1,2,none⟩) (by simp <;> omega) _⟩
set_option maxRecDepth 100000 in
set_option maxHeartbeats 16000000 in
theorem zj.asked (row:List S23) (k:Nat) (g:Nat):∀ (n:Nat) (e:S26) (A7:Option Addr) (c7:Nat) (r1 r2:Int) (r3:ByteArray) (r4:Int) (w:World),zj.Env row g w→Kd.C k26 w A7 e.f5.length e.f5→e.f5.length≤c7→zj.ev row k n e=some (r1,r2,r3,r4) →
    Calls Tryd.prog 41 #[.agg #[.int .i64 e.f0,.int .i64 e.f1.f0,.int .i64 e.f1.f1,.string e.f1.f2,.string e.f2,.string e.f3,.int .i64 e.f4,.slice A7 e.f5.length c7],.func (.func 42) #[] #[.pointer (some ⟨g,0,none⟩)]] w fun e w'=>e = .returned (.tuple #[.agg #[.int .i64 r1,.int .i64 r2,.string r3],.int .i64 r4])∧Below w.heap.size w w':=by
  intro n
  induction n with
  | zero=>
    intro e A7 c7 r1 r2 r3 r4 w he hr hc h
    cases h
  | succ n ih=>
  intro e A7 c7 r1 r2 r3 r4 w he hr hc h
  have huv:=Tryd.underlying23
  have hm:=hr.2.1
  have HE:=zq.mk he
  have HRR:=zq.mk hr
  have HII:=zq.mk ih
  have hew:=fun (W:World) (hb:Below (zj.w0 e A7 c7 w).heap.size (zj.w0 e A7 c7 w) W)=>he.below (zj.hr hb)
  have hrw:=fun (W:World) (hb:Below (zj.w0 e A7 c7 w).heap.size (zj.w0 e A7 c7 w) W)=>Kd.zqe hr (zj.hr hb)
  have HEW:=zq.mk hew
  have HRW:=zq.mk hrw
  clear ih hew hrw
  rw [zj.ev] at h
  by_cases h3:e.f0=3
  · rw [if_pos h3] at h
    by_cases hi:0≤e.f4∧e.f4<row.length
    rotate_left
    · rw [if_neg hi] at h;cases h
    rw [if_pos hi] at h
    obtain ⟨rfl,rfl,rfl,rfl⟩:(zqc row e.f4).f0=r1∧(zqc row e.f4).f1=r2∧(zqc row e.f4).f2=r3∧0=r4:=by simpa using h
    have HY:=zq.mk (zj.of_yes row e A7 c7 g (zj.w0 e A7 c7 w) (HEW.out _ (Below.refl _ _)) h3 hi.1 hi.2)
    clear h h3 hi he hr
    generalize zqc row e.f4=x at *
    go_enter Tryd.func41,Tryd.ntmps41
    go_wp2_with (go_at_call 42;(with_reducible refine(zs.lift (W0:=zj.w0 e A7 c7 w) (Below.refl _ _) (HY.out)).mono ?_);rintro z w1 ⟨rfl,hb1⟩;have HB1:=zq.mk hb1;cases zj.kp hb1;clear hb1)
    have HVX:=zg (zr (zr (zr (zj.hz HB1.out) 0 (.int .i64 x.f0) rfl) 1 (.int .i64 x.f1) rfl) 2 (.string x.f2) rfl) (.cells #[.int .i64 x.f0,.int .i64 x.f1,.string x.f2] 23)
    refine bodyPost_ret (qx (rs := [.cell 4 23,.tmp 5]) rfl (by simp) (.cell (w.heap.size+1) 23 _ (0,0) _ rfl HVX huv rfl (by kernel_rfl) (.tmp .nil))) rfl ?_
    exact⟨rfl,zn ((((zj.hr HB1.out).setCell (p:=⟨w.heap.size+1,0,none⟩) (by simp) _).setCell (p:=⟨w.heap.size+1,1,none⟩) (by simp) _).setCell (p:=⟨w.heap.size+1,2,none⟩) (by simp) _) _⟩
  rw [if_neg h3] at h
  have HNO:=zq.mk (fun W=>zj.of_no e A7 c7 g W h3)
  by_cases h1:e.f0=1
  · rw [if_pos h1] at h
    obtain ⟨rfl,rfl,rfl,rfl⟩:e.f1.f0=r1∧e.f1.f1=r2∧e.f1.f2=r3∧0=r4:=by simpa using h
    have d1:(e.f0 == 1)=true:=by simpa using h1
    clear h h3 h1 he hr
    go_enter Tryd.func41,Tryd.ntmps41
    go_wp2_with (go_at_call 42;(with_reducible refine(zs.lift (W0:=zj.w0 e A7 c7 w) (Below.refl _ _) (HNO.out _)).mono ?_);rintro z w1 ⟨rfl,hb1⟩;have HB1:=zq.mk hb1;cases zj.kp hb1;clear hb1)
    have HVX:=zg (zr (zr (zr (zj.hz HB1.out) 0 (.int .i64 e.f1.f0) rfl) 1 (.int .i64 e.f1.f1) rfl) 2 (.string e.f1.f2) rfl) (.cells #[.int .i64 0,.int .i64 0,.string ⟨#[]⟩] 23)
    refine bodyPost_ret (qx (rs := [.cell 4 23,.tmp 5]) rfl (by simp) (.cell (w.heap.size+1) 23 _ (0,0) _ rfl HVX huv rfl (by kernel_rfl) (.tmp .nil))) rfl ?_
    exact⟨rfl,zn ((((zj.hr HB1.out).setCell (p:=⟨w.heap.size+1,0,none⟩) (by simp) _).setCell (p:=⟨w.heap.size+1,1,none⟩) (by simp) _).setCell (p:=⟨w.heap.size+1,2,none⟩) (by simp) _) _⟩
  rw [if_neg h1] at h
  have d1:(e.f0 == 1)=false:=by simpa using h1
  by_cases h19:e.f0=19
  · rw [if_pos h19] at h
    have d2:(e.f0 == 19)=true:=by simpa using h19
    have HLZ:=zq.mk (fun (W:World) hb=>zj.lazy_19 row k _ g HII.out e A7 c7 r1 r2 r3 r4 W (HEW.out W hb) (HRW.out W hb) hc h19 h)
    clear h h3 h1 h19 he hr
    go_enter Tryd.func41,Tryd.ntmps41
    go_wp2_with (first|(go_at_call 42;(with_reducible refine(zs.lift (W0:=zj.w0 e A7 c7 w) (Below.refl _ _) (HNO.out _)).mono ?_);rintro z w1 ⟨rfl,hb1⟩;have HB1:=zq.mk hb1;cases zj.kp hb1;clear hb1)|(go_at_call 69;(with_reducible refine(HLZ.out _ (zn HB1.out _)).mono ?_);rintro z w2 ⟨rfl,hb2⟩;have HB2:=zq.mk ((zn HB1.out _).trans (hb2.mono (zn HB1.out _).size));cases zj.kp HB2.out;clear hb2))
    have HVX:=(zr (zr (zr (zj.hz (HB2.out)) 0 (.int .i64 r1) rfl) 1 (.int .i64 r2) rfl) 2 (.string r3) rfl)
    refine bodyPost_ret (qx (rs := [.cell 4 23,.tmp 5]) rfl (by simp) (.cell (w.heap.size+1) 23 _ (0,0) _ rfl HVX huv rfl (by kernel_rfl) (.tmp .nil))) rfl ?_
    exact⟨rfl,(((zj.hr (HB2.out)).setCell (p:=⟨w.heap.size+1,0,none⟩) (by simp <;> omega) _).setCell (p:=⟨w.heap.size+1,1,none⟩) (by simp <;> omega) _).setCell (p:=⟨w.heap.size+1,2,none⟩) (by simp <;> omega) _⟩
  rw [if_neg h19] at h
  have d2:(e.f0 == 19)=false:=by simpa using h19
  by_cases h20:e.f0=20
  · rw [if_pos h20] at h
    have d3:(e.f0 == 20)=true:=by simpa using h20
    have HLZ:=zq.mk (fun (W:World) hb=>zj.lazy_20 row k _ g HII.out e A7 c7 r1 r2 r3 r4 W (HEW.out W hb) (HRW.out W hb) hc h20 h)
    clear h h3 h1 h19 h20 he hr
    go_enter Tryd.func41,Tryd.ntmps41
    go_wp2_with (first|(go_at_call 42;(with_reducible refine(zs.lift (W0:=zj.w0 e A7 c7 w) (Below.refl _ _) (HNO.out _)).mono ?_);rintro z w1 ⟨rfl,hb1⟩;have HB1:=zq.mk hb1;cases zj.kp hb1;clear hb1)|(go_at_call 69;(with_reducible refine(HLZ.out _ (zn HB1.out _)).mono ?_);rintro z w2 ⟨rfl,hb2⟩;have HB2:=zq.mk ((zn HB1.out _).trans (hb2.mono (zn HB1.out _).size));cases zj.kp HB2.out;clear hb2))
    have HVX:=(zr (zr (zr (zj.hz (HB2.out)) 0 (.int .i64 r1) rfl) 1 (.int .i64 r2) rfl) 2 (.string r3) rfl)
    refine bodyPost_ret (qx (rs := [.cell 4 23,.tmp 5]) rfl (by simp) (.cell (w.heap.size+1) 23 _ (0,0) _ rfl HVX huv rfl (by kernel_rfl) (.tmp .nil))) rfl ?_
    exact⟨rfl,(((zj.hr (HB2.out)).setCell (p:=⟨w.heap.size+1,0,none⟩) (by simp <;> omega) _).setCell (p:=⟨w.heap.size+1,1,none⟩) (by simp <;> omega) _).setCell (p:=⟨w.heap.size+1,2,none⟩) (by simp <;> omega) _⟩
  rw [if_neg h20] at h
  have d3:(e.f0 == 20)=false:=by simpa using h20
  have HS:=zq.mk h
  clear h h3 h1 h19 h20 he hr
  go_enter Tryd.func41,Tryd.ntmps41
  go_wp2_with (go_at_call 42;(with_reducible refine(zs.lift (W0:=zj.w0 e A7 c7 w) (Below.refl _ _) (HNO.out _)).mono ?_);rintro z w1 ⟨rfl,hb1⟩;have HB1:=zq.mk hb1;cases zj.kp hb1;clear hb1)
  go_loopw [41] (fun i wr => ∃ j:Nat,j≤e.f5.length∧i = .int .i64 j ∧ ∃ a b:S23,zq (zj.rest (zj.ev row k n) (zy.of k e.f0) j a b (e.f5.drop j)=some (r1,r2,r3,r4))∧zq (Below (zj.w0 e A7 c7 w).heap.size (zj.w0 e A7 c7 w) wr)∧zq (wr.heap[w1.heap.size+1]? = some (.cells #[.int .i64 a.f0,.int .i64 a.f1,.string a.f2,.int .i64 b.f0,.int .i64 b.f1,.string b.f2] 86 (0,0)))) (fun i _=>e.f5.length - (intOf i).toNat)
  case atStart=>exact⟨0,by omega,rfl,⟨0,0,⟨#[]⟩⟩,⟨0,0,⟨#[]⟩⟩,⟨by rw [List.drop_zero];exact HS.out⟩,⟨zn (zn HB1.out _) _⟩,⟨zj.new1 w1 _ _⟩⟩
  case round=>
    clear HS
    obtain ⟨j,hj,rfl,a,b,HS,HB,HG⟩:=hrel
    by_cases hlt:j<e.f5.length
    · cases zj.kp HB.out
      have hgl:=qd HG.out
      obtain ⟨bb,oo,rfl,hcs⟩:=qq.at_ (Kd.zqe HRR.out (zj.hr HB.out)) (by omega)
      obtain ⟨A8,c8,p0,p1,p2,p3,p4,p5,p6,p7,l8,r8⟩:=hcs j hlt
      have hs:=HS.out
      rw [List.drop_eq_getElem_cons hlt,zj.rest] at hs
      by_cases j2:2≤j
      · rw [if_pos j2] at hs;cases hs
      rw [if_neg j2] at hs
      generalize e.f5[j]=x at *
      obtain ⟨⟨q1,q2,q3,q4⟩,hq,ht⟩:=Option.bind_eq_some_iff.1 hs
      clear hs
      dsimp only at ht
      have hs:=ht
      clear ht
      have hba:=zn (Below.refl wr.heap.size wr) (.cells #[.int .i64 x.f0,.int .i64 x.f1.f0,.int .i64 x.f1.f1,.string x.f1.f2,.string x.f2,.string x.f3,.int .i64 x.f4,.slice A8 x.f5.length c8] 26)
      have HCA:=zq.mk (HII.out x A8 c8 q1 q2 q3 q4 _ ((HE.out.below (zj.hr HB.out)).below hba) (Kd.zqe r8 hba) l8 hq)
      have HBA:=zq.mk (zn HB.out (.cells #[.int .i64 x.f0,.int .i64 x.f1.f0,.int .i64 x.f1.f1,.string x.f1.f2,.string x.f2,.string x.f3,.int .i64 x.f4,.slice A8 x.f5.length c8] 26))
      have HGA:=zq.mk (zg HG.out (.cells #[.int .i64 x.f0,.int .i64 x.f1.f0,.int .i64 x.f1.f1,.string x.f1.f2,.string x.f2,.string x.f3,.int .i64 x.f4,.slice A8 x.f5.length c8] 26))
      clear hba hq r8 hcs HS
      by_cases z:q4=0
      · rw [if_pos z] at hs
        subst z
        obtain rfl|rfl:j=0∨j=1:=by omega
        · simp only [Nat.zero_mul,Nat.add_zero] at p0 p1 p2 p3 p4 p5 p6 p7
          rw [if_pos rfl,if_pos rfl] at hs
          have HS:=zq.mk hs
          clear hs
          go_wp2_with (go_at_call 41;(with_reducible refine HCA.out.mono ?_);rintro z w4 ⟨rfl,hb4⟩;have HB4:=zq.mk (HBA.out.trans (hb4.mono HBA.out.size));have HG4:=zq.mk ((hb4.block _ (qd HGA.out)).trans HGA.out);clear hb4;cases zj.kp HB4.out;have hl4:=qd HG4.out;have y4_0:w4.cell? ⟨w1.heap.size+1,0,none⟩=some (.int .i64 a.f0):=(zh HG4.out 0).trans rfl;have z4_0:=qj HG4.out 0;have y4_1:w4.cell? ⟨w1.heap.size+1,1,none⟩=some (.int .i64 a.f1):=(zh HG4.out 1).trans rfl;have z4_1:=qj HG4.out 1;have y4_2:w4.cell? ⟨w1.heap.size+1,2,none⟩=some (.string a.f2):=(zh HG4.out 2).trans rfl;have z4_2:=qj HG4.out 2;have y4_3:w4.cell? ⟨w1.heap.size+1,3,none⟩=some (.int .i64 b.f0):=(zh HG4.out 3).trans rfl;have z4_3:=qj HG4.out 3;have y4_4:w4.cell? ⟨w1.heap.size+1,4,none⟩=some (.int .i64 b.f1):=(zh HG4.out 4).trans rfl;have z4_4:=qj HG4.out 4;have y4_5:w4.cell? ⟨w1.heap.size+1,5,none⟩=some (.string b.f2):=(zh HG4.out 5).trans rfl;have z4_5:=qj HG4.out 5)
          go_roundw
          case rel=>exact⟨1,by omega,by go_num,⟨q1,q2,q3⟩,b,HS,⟨zn (((HB4.out.setCell (p:=⟨w1.heap.size+1,0,none⟩) (Nat.le_succ_of_le HB1.out.size) _).setCell (p:=⟨w1.heap.size+1,1,none⟩) (Nat.le_succ_of_le HB1.out.size) _).setCell (p:=⟨w1.heap.size+1,2,none⟩) (Nat.le_succ_of_le HB1.out.size) _) _⟩,⟨zg (zr (zr (zr HG4.out 0 (.int .i64 q1) rfl) 1 (.int .i64 q2) rfl) 2 (.string q3) rfl) _⟩⟩
          case measure=>simp [intOf];omega
        rw [if_neg (by decide),if_neg (by decide)] at hs
        have HS:=zq.mk hs
        clear hs
        go_wp2_with (go_at_call 41;(with_reducible refine HCA.out.mono ?_);rintro z w4 ⟨rfl,hb4⟩;have HB4:=zq.mk (HBA.out.trans (hb4.mono HBA.out.size));have HG4:=zq.mk ((hb4.block _ (qd HGA.out)).trans HGA.out);clear hb4;cases zj.kp HB4.out;have hl4:=qd HG4.out;have y4_0:w4.cell? ⟨w1.heap.size+1,0,none⟩=some (.int .i64 a.f0):=(zh HG4.out 0).trans rfl;have z4_0:=qj HG4.out 0;have y4_1:w4.cell? ⟨w1.heap.size+1,1,none⟩=some (.int .i64 a.f1):=(zh HG4.out 1).trans rfl;have z4_1:=qj HG4.out 1;have y4_2:w4.cell? ⟨w1.heap.size+1,2,none⟩=some (.string a.f2):=(zh HG4.out 2).trans rfl;have z4_2:=qj HG4.out 2;have y4_3:w4.cell? ⟨w1.heap.size+1,3,none⟩=some (.int .i64 b.f0):=(zh HG4.out 3).trans rfl;have z4_3:=qj HG4.out 3;have y4_4:w4.cell? ⟨w1.heap.size+1,4,none⟩=some (.int .i64 b.f1):=(zh HG4.out 4).trans rfl;have z4_4:=qj HG4.out 4;have y4_5:w4.cell? ⟨w1.heap.size+1,5,none⟩=some (.string b.f2):=(zh HG4.out 5).trans rfl;have z4_5:=qj HG4.out 5)
        go_roundw
        case rel=>exact⟨2,by omega,by go_num,a,⟨q1,q2,q3⟩,HS,⟨zn (((HB4.out.setCell (p:=⟨w1.heap.size+1,3,none⟩) (Nat.le_succ_of_le HB1.out.size) _).setCell (p:=⟨w1.heap.size+1,4,none⟩) (Nat.le_succ_of_le HB1.out.size) _).setCell (p:=⟨w1.heap.size+1,5,none⟩) (Nat.le_succ_of_le HB1.out.size) _) _⟩,⟨zg (zr (zr (zr HG4.out 3 (.int .i64 q1) rfl) 4 (.int .i64 q2) rfl) 5 (.string q3) rfl) _⟩⟩
        case measure=>simp [intOf];omega
      rw [if_neg z] at hs
      obtain ⟨rfl,rfl,rfl,rfl⟩:q1=r1∧q2=r2∧q3=r3∧q4=r4:=by simpa using hs
      have dz:(q4 != 0)=true:=by simpa using z
      clear hs z
      go_wp2_with (go_at_call 41;(with_reducible refine HCA.out.mono ?_);rintro z w4 ⟨rfl,hb4⟩;have HB4:=zq.mk (HBA.out.trans (hb4.mono HBA.out.size));have HG4:=zq.mk ((hb4.block _ (qd HGA.out)).trans HGA.out);clear hb4;cases zj.kp HB4.out;have hl4:=qd HG4.out;have y4_0:w4.cell? ⟨w1.heap.size+1,0,none⟩=some (.int .i64 a.f0):=(zh HG4.out 0).trans rfl;have z4_0:=qj HG4.out 0;have y4_1:w4.cell? ⟨w1.heap.size+1,1,none⟩=some (.int .i64 a.f1):=(zh HG4.out 1).trans rfl;have z4_1:=qj HG4.out 1;have y4_2:w4.cell? ⟨w1.heap.size+1,2,none⟩=some (.string a.f2):=(zh HG4.out 2).trans rfl;have z4_2:=qj HG4.out 2;have y4_3:w4.cell? ⟨w1.heap.size+1,3,none⟩=some (.int .i64 b.f0):=(zh HG4.out 3).trans rfl;have z4_3:=qj HG4.out 3;have y4_4:w4.cell? ⟨w1.heap.size+1,4,none⟩=some (.int .i64 b.f1):=(zh HG4.out 4).trans rfl;have z4_4:=qj HG4.out 4;have y4_5:w4.cell? ⟨w1.heap.size+1,5,none⟩=some (.string b.f2):=(zh HG4.out 5).trans rfl;have z4_5:=qj HG4.out 5)
      have HVX:=zg (zr (zr (zr (zj.hz HB4.out) 0 (.int .i64 q1) rfl) 1 (.int .i64 q2) rfl) 2 (.string q3) rfl) (.cells #[.int .i64 q1,.int .i64 q2,.string q3] 23)
      refine bodyPost_ret (qx (rs := [.cell 4 23,.tmp 5]) rfl (by simp) (.cell (w.heap.size+1) 23 _ (0,0) _ rfl HVX huv rfl (by kernel_rfl) (.tmp .nil))) rfl ?_
      exact⟨rfl,zn ((((zj.hr HB4.out).setCell (p:=⟨w.heap.size+1,0,none⟩) (by simp) _).setCell (p:=⟨w.heap.size+1,1,none⟩) (by simp) _).setCell (p:=⟨w.heap.size+1,2,none⟩) (by simp) _) _⟩
    obtain rfl:j=e.f5.length:=by omega
    have hs:=HS.out
    rw [List.drop_length,zj.rest] at hs
    have HMK:=zq.mk hs
    cases zj.kp HB.out
    have hl:=qd HG.out
    have y0:wr.cell? ⟨w1.heap.size+1,0,none⟩=some (.int .i64 a.f0):=(zh HG.out 0).trans rfl
    have y1:wr.cell? ⟨w1.heap.size+1,1,none⟩=some (.int .i64 a.f1):=(zh HG.out 1).trans rfl
    have y2:wr.cell? ⟨w1.heap.size+1,2,none⟩=some (.string a.f2):=(zh HG.out 2).trans rfl
    have y3:wr.cell? ⟨w1.heap.size+1,3,none⟩=some (.int .i64 b.f0):=(zh HG.out 3).trans rfl
    have y4:wr.cell? ⟨w1.heap.size+1,4,none⟩=some (.int .i64 b.f1):=(zh HG.out 4).trans rfl
    have y5:wr.cell? ⟨w1.heap.size+1,5,none⟩=some (.string b.f2):=(zh HG.out 5).trans rfl
    clear HS hs
    go_wp2_with (go_at_call 70;(with_reducible refine(zy.at_ k _ _ _ _ _ _ _ _ _ _ a b r1 r2 r3 r4 _ (LD.below HE.out.ld (zj.hr HB.out)) HMK.out).mono ?_);rintro z w4 ⟨rfl,hb4⟩;have HB4:=zq.mk (HB.out.trans (hb4.mono HB.out.size));clear hb4;cases zj.kp HB4.out)
    have HVX:=(zr (zr (zr (zj.hz (HB4.out)) 0 (.int .i64 r1) rfl) 1 (.int .i64 r2) rfl) 2 (.string r3) rfl)
    refine bodyPost_ret (qx (rs := [.cell 4 23,.tmp 5]) rfl (by simp) (.cell (w.heap.size+1) 23 _ (0,0) _ rfl HVX huv rfl (by kernel_rfl) (.tmp .nil))) rfl ?_
    exact⟨rfl,(((zj.hr (HB4.out)).setCell (p:=⟨w.heap.size+1,0,none⟩) (by simp <;> omega) _).setCell (p:=⟨w.heap.size+1,1,none⟩) (by simp <;> omega) _).setCell (p:=⟨w.heap.size+1,2,none⟩) (by simp <;> omega) _⟩

-- NOT PRINTED: function 21 (eval_EvalWith)

-- NOT PRINTED: function 22 (eval_of)

/-! ### qf: function 8, by hand -/
-- HAND rounds=1 making=1 laid=1 imports=Derived.Deep.QuietTactic,Derived.BigQuiet,Derived.Deep.RegionHeld3,Derived.Deep.RegionWith
def qf.expr (a0 a1 a2:Int) (a3 a4 a5:ByteArray) (a6:Int) (l7:List S26):S26:=⟨a0,⟨a1,a2,a3⟩,a4,a5,a6,l7⟩
def qf.f (k:Nat) (a0_0:Int) (a0_1:Int) (a0_2:Int) (a0_3:ByteArray) (a0_4:ByteArray) (a0_5:ByteArray) (a0_6:Int) (l0_7:List S26) (l1:List S23):Option (Int × Int × ByteArray × Int):=
  (zqm.f k a0_0 a0_1 a0_2 a0_3 a0_4 a0_5 a0_6 l0_7 l1).bind fun t=>if t=0 then zj.ev l1 k 12 (qf.expr a0_0 a0_1 a0_2 a0_3 a0_4 a0_5 a0_6 l0_7) else some (0,0,⟨#[]⟩,t)
theorem qf.mono:∀ a0 a1 a2 a3 a4 a5 a6 a7 a8 k,LeO (qf.f k a0 a1 a2 a3 a4 a5 a6 a7 a8) (qf.f (k+1) a0 a1 a2 a3 a4 a5 a6 a7 a8):=fun _ _ _ _ _ _ _ _ _ k=>LeO.bind (zqm.mono _ _ _ _ _ _ _ _ _ _) (fun _=>LeO.ite (zj.mono_ev _ _ _ _) (LeO.refl _))
abbrev qf.w0 (e:S26) (A7:Option Addr) (c7:Nat) (w:World):World:=(w.alloc (.cells #[.int .i64 e.f0,.int .i64 e.f1.f0,.int .i64 e.f1.f1,.string e.f1.f2,.string e.f2,.string e.f3,.int .i64 e.f4,.slice A7 e.f5.length c7] 26)).alloc (.cells #[.int .i64 0,.int .i64 0,.string ⟨#[]⟩] 23)
structure qf.Kp (e:S26) (A7:Option Addr) (c7:Nat) (w W:World):Prop where mk :: (c0:W.cell? ⟨w.heap.size,0,none⟩=some (.int .i64 e.f0)) (c1:W.cell? ⟨w.heap.size,1,none⟩=some (.int .i64 e.f1.f0)) (c2:W.cell? ⟨w.heap.size,2,none⟩=some (.int .i64 e.f1.f1)) (c3:W.cell? ⟨w.heap.size,3,none⟩=some (.string e.f1.f2)) (c4:W.cell? ⟨w.heap.size,4,none⟩=some (.string e.f2)) (c5:W.cell? ⟨w.heap.size,5,none⟩=some (.string e.f3)) (c6:W.cell? ⟨w.heap.size,6,none⟩=some (.int .i64 e.f4)) (c7:W.cell? ⟨w.heap.size,7,none⟩=some (.slice A7 e.f5.length c7)) (c8:W.cell? ⟨w.heap.size+1,0,none⟩=some (.int .i64 0)) (c9:W.cell? ⟨w.heap.size+1,1,none⟩=some (.int .i64 0)) (c10:W.cell? ⟨w.heap.size+1,2,none⟩=some (.string ⟨#[]⟩)) (c11:W.frozen? ⟨w.heap.size+1,0,none⟩=false) (c12:W.frozen? ⟨w.heap.size+1,1,none⟩=false) (c13:W.frozen? ⟨w.heap.size+1,2,none⟩=false) (c14:w.heap.size<W.heap.size) (c15:w.heap.size+1<W.heap.size)
theorem qf.zq1 {e:S26} {A7:Option Addr} {c7:Nat} {w:World} : (qf.w0 e A7 c7 w).heap.size=w.heap.size+1+1:=by simp [qf.w0]
theorem qf.hz {e:S26} {A7:Option Addr} {c7:Nat} {w W:World} (hb:Below (qf.w0 e A7 c7 w).heap.size (qf.w0 e A7 c7 w) W):W.heap[w.heap.size+1]? = some (.cells #[.int .i64 0,.int .i64 0,.string ⟨#[]⟩] 23 (0,0)):=by
  have q_:(w.alloc (.cells #[.int .i64 e.f0,.int .i64 e.f1.f0,.int .i64 e.f1.f1,.string e.f1.f2,.string e.f2,.string e.f3,.int .i64 e.f4,.slice A7 e.f5.length c7] 26)).heap.size=w.heap.size+1:=by simp
  have h:=zjy (w.alloc (.cells #[.int .i64 e.f0,.int .i64 e.f1.f0,.int .i64 e.f1.f1,.string e.f1.f2,.string e.f2,.string e.f3,.int .i64 e.f4,.slice A7 e.f5.length c7] 26)) (.cells #[.int .i64 0,.int .i64 0,.string ⟨#[]⟩] 23)
  rw [q_] at h
  exact zl h hb
theorem qf.hr {e:S26} {A7:Option Addr} {c7:Nat} {w W:World} (hb:Below (qf.w0 e A7 c7 w).heap.size (qf.w0 e A7 c7 w) W):Below w.heap.size w W:=by
  have h0:Below w.heap.size w (qf.w0 e A7 c7 w):=zn (zn (Below.refl _ _) _) _
  exact h0.trans (hb.mono h0.size)
theorem qf.kp {e:S26} {A7:Option Addr} {c7:Nat} {w W:World} (hb:Below (qf.w0 e A7 c7 w).heap.size (qf.w0 e A7 c7 w) W):qf.Kp e A7 c7 w W:=by
  have hs:=hb.size
  rw [qf.zq1] at hs
  exact⟨ze hb (by simp [go_sem]),ze hb (by simp [go_sem]),ze hb (by simp [go_sem]),ze hb (by simp [go_sem]),ze hb (by simp [go_sem]),ze hb (by simp [go_sem]),ze hb (by simp [go_sem]),ze hb (by simp [go_sem]),ze hb (by simp [go_sem]),ze hb (by simp [go_sem]),ze hb (by simp [go_sem]),qj (qf.hz hb) 0,qj (qf.hz hb) 1,qj (qf.hz hb) 2,by omega,by omega⟩
set_option maxRecDepth 100000 in
set_option maxHeartbeats 4000000 in
theorem qf.with_ (row:List S23) (k:Nat) (g:Nat) (n:Nat) (e:S26) (A7:Option Addr) (c7:Nat) (r1 r2:Int) (r3:ByteArray) (r4:Int) (w:World) (he:zj.Env row g w) (hr:Kd.C k26 w A7 e.f5.length e.f5) (hc:e.f5.length≤c7) (h:zj.ev row k n e=some (r1,r2,r3,r4)) :
    Calls Tryd.prog 21 #[.agg #[.int .i64 e.f0,.int .i64 e.f1.f0,.int .i64 e.f1.f1,.string e.f1.f2,.string e.f2,.string e.f3,.int .i64 e.f4,.slice A7 e.f5.length c7],.func (.func 42) #[] #[.pointer (some ⟨g,0,none⟩)]] w fun e w'=>e = .returned (.tuple #[.agg #[.int .i64 r1,.int .i64 r2,.string r3],.int .i64 r4])∧Below w.heap.size w w':=by
  have huv:=Tryd.underlying23
  have HA:=zq.mk (fun (W:World) (hb:Below (qf.w0 e A7 c7 w).heap.size (qf.w0 e A7 c7 w) W)=>zj.asked row k g n e A7 c7 r1 r2 r3 r4 W (he.below (qf.hr hb)) (Kd.zqe hr (qf.hr hb)) hc h)
  clear he hr h
  go_enter Tryd.func21,Tryd.ntmps21
  go_wp2_with (go_at_call 41;(with_reducible refine(zs.lift (W0:=qf.w0 e A7 c7 w) (Below.refl _ _) (HA.out _ (Below.refl _ _))).mono ?_);rintro z w1 ⟨rfl,hb1⟩;have HB1:=zq.mk hb1;cases qf.kp hb1;clear hb1)
  have HVX:=(zr (zr (zr (qf.hz HB1.out) 0 (.int .i64 r1) rfl) 1 (.int .i64 r2) rfl) 2 (.string r3) rfl)
  refine bodyPost_ret (qx (rs := [.cell 4 23,.tmp 5]) rfl (by simp) (.cell (w.heap.size+1) 23 _ (0,0) _ rfl HVX huv rfl (by kernel_rfl) (.tmp .nil))) rfl ?_
  exact⟨rfl,(((qf.hr HB1.out).setCell (p:=⟨w.heap.size+1,0,none⟩) (by simp <;> omega) _).setCell (p:=⟨w.heap.size+1,1,none⟩) (by simp <;> omega) _).setCell (p:=⟨w.heap.size+1,2,none⟩) (by simp <;> omega) _⟩
set_option maxRecDepth 100000 in
set_option maxHeartbeats 4000000 in
theorem qf.calls (k:Nat) (a0_0:Int) (a0_1:Int) (a0_2:Int) (a0_3:ByteArray) (a0_4:ByteArray) (a0_5:ByteArray) (a0_6:Int) (A0_7:Option Addr) (c0_7:Nat) (l0_7:List (S26)) (A1:Option Addr) (c1:Nat) (l1:List (S23)) (r1 r2:Int) (r3:ByteArray) (r4:Int) (w:World) (hr0_7:Kd.C k26 w A0_7 l0_7.length l0_7) (hc0_7:l0_7.length≤c0_7) (hr1:Kd.C k23 w A1 l1.length l1) (hc1:l1.length≤c1) (hL:LD w) (h:qf.f k a0_0 a0_1 a0_2 a0_3 a0_4 a0_5 a0_6 l0_7 l1=some (r1,r2,r3,r4)) :
    Calls Tryd.prog 8 #[.agg #[.int .i64 a0_0,.int .i64 a0_1,.int .i64 a0_2,.string a0_3,.string a0_4,.string a0_5,.int .i64 a0_6,.slice A0_7 l0_7.length c0_7],.slice A1 l1.length c1] w fun e w'=>e = .returned (.tuple #[.agg #[.int .i64 r1,.int .i64 r2,.string r3],.int .i64 r4])∧Below w.heap.size w w':=by
  have huv:=Tryd.underlying23
  obtain ⟨t,ht,h⟩:=Option.bind_eq_some_iff.1 h
  obtain ⟨e,rfl,rfl,rfl,rfl,rfl,rfl,rfl,rfl⟩:∃ e:S26,a0_0=e.f0∧a0_1=e.f1.f0∧a0_2=e.f1.f1∧a0_3=e.f1.f2∧a0_4=e.f2∧a0_5=e.f3∧a0_6=e.f4∧l0_7=e.f5:=⟨⟨a0_0,⟨a0_1,a0_2,a0_3⟩,a0_4,a0_5,a0_6,l0_7⟩,rfl,rfl,rfl,rfl,rfl,rfl,rfl,rfl⟩
  have HR0:=zq.mk hr0_7
  have HR1:=zq.mk hr1
  have HL:=zq.mk hL
  have HF:=zq.mk (fun (W:World) (hb:Below (qf.w0 e A0_7 c0_7 w).heap.size (qf.w0 e A0_7 c0_7 w) W)=>zqm.calls k e.f0 e.f1.f0 e.f1.f1 e.f1.f2 e.f2 e.f3 e.f4 A0_7 c0_7 e.f5 A1 c1 l1 t W (Kd.zqe hr0_7 (qf.hr hb)) hc0_7 (Kd.zqe hr1 (qf.hr hb)) hc1 (LD.below hL (qf.hr hb)) ht)
  clear hr0_7 hr1 hL ht
  by_cases z:t=0
  · rw [if_pos z] at h
    subst z
    have HS:=zq.mk h
    clear h
    go_enter Tryd.func8,Tryd.ntmps8
    go_wp2_with (go_at_call 20;(with_reducible refine(zs.lift (W0:=qf.w0 e A0_7 c0_7 w) (Below.refl _ _) (HF.out _ (Below.refl _ _))).mono ?_);rintro z w1 ⟨rfl,hb1⟩;have HB1:=zq.mk hb1;cases qf.kp hb1;clear hb1)
    have HRB:=zq.mk (qf.hr HB1.out)
    first|fail|(go_region_with (first
      | (go_at_call 22;refine(zj.made l1 A1 l1.length c1 _).mono ?_;rintro x w2 ⟨rfl,rfl⟩)
      | (go_at_call 21;refine(qf.with_ l1 k _ 12 e A0_7 c0_7 r1 r2 r3 r4 _ ⟨LD.below HL.out (by repeat(first|exact HRB.out|apply zn|apply qp|apply ql)),A1,c1,by simp [go_sem],Kd.zqe HR1.out (by repeat(first|exact HRB.out|apply zn|apply qp|apply ql))⟩ (Kd.zqe HR0.out (by repeat(first|exact HRB.out|apply zn|apply qp|apply ql))) hc0_7 HS.out).mono ?_;rintro x w3 ⟨rfl,hb3⟩;have HB3:=zq.mk (((by repeat(first|exact HB1.out|apply zn|apply qp|apply ql)):Below (qf.w0 e A0_7 c0_7 w).heap.size (qf.w0 e A0_7 c0_7 w) _).trans (hb3.mono (zw (by repeat(first|exact HB1.out|apply zn|apply qp|apply ql)))));clear hb3;cases qf.kp HB3.out)))|fail
    all_goals
      go_wp2
      have HVX:=(zr (zr (zr (qf.hz HB3.out) 0 (.int .i64 r1) rfl) 1 (.int .i64 r2) rfl) 2 (.string r3) rfl)
      refine bodyPost_ret (qx (rs := [.cell 4 23,.tmp 5]) rfl (by simp) (.cell (w.heap.size+1) 23 _ (0,0) _ rfl HVX huv rfl (by kernel_rfl) (.tmp .nil))) rfl ?_
      exact⟨rfl,(((qf.hr HB3.out).setCell (p:=⟨w.heap.size+1,0,none⟩) (by simp <;> omega) _).setCell (p:=⟨w.heap.size+1,1,none⟩) (by simp <;> omega) _).setCell (p:=⟨w.heap.size+1,2,none⟩) (by simp <;> omega) _⟩
  rw [if_neg z] at h
  obtain ⟨rfl,rfl,rfl,rfl⟩:0=r1∧0=r2∧(⟨#[]⟩:ByteArray)=r3∧t=r4:=by simpa using h
  have dz:(t != 0)=true:=by simpa using z
  clear h z
  go_enter Tryd.func8,Tryd.ntmps8
  go_wp2_with (go_at_call 20;(with_reducible refine(zs.lift (W0:=qf.w0 e A0_7 c0_7 w) (Below.refl _ _) (HF.out _ (Below.refl _ _))).mono ?_);rintro z w1 ⟨rfl,hb1⟩;have HB1:=zq.mk hb1;cases qf.kp hb1;clear hb1)
  have HVX:=(zr (zr (zr (qf.hz HB1.out) 0 (.int .i64 0) rfl) 1 (.int .i64 0) rfl) 2 (.string ⟨#[]⟩) rfl)
  refine bodyPost_ret (qx (rs := [.cell 4 23,.tmp 5]) rfl (by simp) (.cell (w.heap.size+1) 23 _ (0,0) _ rfl HVX huv rfl (by kernel_rfl) (.tmp .nil))) rfl ?_
  exact⟨rfl,(((qf.hr HB1.out).setCell (p:=⟨w.heap.size+1,0,none⟩) (by simp <;> omega) _).setCell (p:=⟨w.heap.size+1,1,none⟩) (by simp <;> omega) _).setCell (p:=⟨w.heap.size+1,2,none⟩) (by simp <;> omega) _⟩

/-! ### zql: function 9 -/
def zql.f (l0:List (S23)):Option ((List (S23))):=if([]:List (S23)).length+l0.length<4398046511104 then(some (([]:List (S23)) ++ l0)) else (none)
set_option maxHeartbeats 8000000 in
set_option maxRecDepth 100000 in
theorem zql.calls (A0:Option Addr) (c0:Nat) (l0:List (S23)) (r:List (S23)) (w:World) (hr0:Kd.C k23 w A0 l0.length l0) (hc0:l0.length≤c0) (h:zql.f l0=some r) :
    Calls Tryd.prog 9 #[.slice A0 l0.length c0] w fun e w' => ∃ v0_:Value,e = .returned (v0_)∧Kd.R k23 23 w' w.heap.size (fun _=>True) v0_ r∧Below w.heap.size w w':=by
  have HR0:=zq.mk hr0
  have HC0:=zq.mk hc0
  clear hr0 hc0
  have HB:=zq.mk (Below.refl w.heap.size w)
  have H:(if([]:List (S23)).length+l0.length<4398046511104 then(some (([]:List (S23)) ++ l0)) else (none))=some r:=h
  clear h
  by_cases c2:([]:List (S23)).length+l0.length<4398046511104
  · rw [if_pos c2] at H
    have LMc2:=zq.mk c2
    clear c2
    obtain ⟨y159,hy159⟩:∃ y_:List (S23),y_=(([]:List (S23)) ++ l0):=⟨_,rfl⟩
    replace H:(some y159)=some r:=by first|(rw [hy159];with_reducible exact H)|(have H2_:=(Option.bind_some _ _).symm.trans H;rw [hy159];with_reducible exact H2_)|(have H2_:=(Option.bind_some _ _).symm.trans H;with_reducible exact H2_)|with_reducible exact H|(rw [hy159];exact H)|exact H
    have Ny159:=zq.mk hy159
    clear hy159
    obtain rfl:=Option.some.inj H
    go_enter Tryd.func9,Tryd.ntmps9
    go_wp2_with (first|((with_reducible refine gate_builtin (b:=.append) (xs:=#[.const (.slice none 0 0),.tmp 3]) rfl ?_);at_builtin;refine Kd.R_append_rows k23 (w0:=w) w.heap.size rfl (.const (.slice none 0 0)) (.tmp 3) 27 23 (.agg #[(.int .i64 0),(.int .i64 0),(.string ⟨#[]⟩)]) 32 rfl Tryd.underlying27 info23 rfl (by decide) (by omega) (.slice none 0 0) ([]:List (S23)) l0 _ _ _ (fun _=>True) (fun _=>False) rfl rfl ?aO ?aR (fun _ _ h=>h) (fun _ h=>h.elim) ?aF ?aB ?aS ?aL ?_;(case aR=>exact Kd.cu HR0.out);(case aB=>exact bw);(case aF=>exact(fun _ _=>trivial));(case aO=>exact((Kd.R_nil _ _ _ _ (fun _=>True))));(case aS=>exact(zw bw));(case aL=>have:=LMc2.out;omega);intro v160 w3 ho hb hg hat;rw [← Ny159.out] at ho;replace HB:=zq.mk (hb);have HO161:=zq.mk (ho);clear ho hb hg hat))
    go_ret
    exact⟨_,by first|rfl|(simp [zk,zx] <;> rfl)|(simp [*,zk,zx] <;> rfl),by(with_reducible repeat(first|apply Kd.R_alloc|apply Kd.R_drewN|apply Kd.R_drew));exact HO161.out,bw⟩
  rw [if_neg c2] at H
  exact absurd H (by simp)

/-! ### qy: function 43 -/
mutual
def qy.l0:Nat→Int→Int→List (S26)→Int→Int→Option (Int)
  | 0,_,_,_,_,_=>none
  | k+1,x1,x5,x11,x12,x13=>if x13<x12 then(if 0≤x13 then(if x13<(x11.length:Int) then((qy.f k ((qr x11 x13).f0) ((qr x11 x13).f1.f0) ((qr x11 x13).f1.f1) ((qr x11 x13).f1.f2) ((qr x11 x13).f2) ((qr x11 x13).f3) ((qr x11 x13).f4) ((qr x11 x13).f5) (wrap64 (x1 - 1))).bind fun t165=>(qy.l0 k x1 (mx x5 t165) x11 x12 (wrap64 (x13+1)))) else (none)) else (none)) else (some (wrap64 (x5+1)))
def qy.f:Nat→Int→Int→Int→ByteArray→ByteArray→ByteArray→Int→List (S26)→Int→Option (Int)
  | 0,_,_,_,_,_,_,_,_,_=>none
  | k+1,a0_0,a0_1,a0_2,a0_3,a0_4,a0_5,a0_6,l0_7,a1=>if a1 > 0 then(qy.l0 k a1 0 l0_7 (l0_7.length:Int) 0) else (some (0+1))
end
theorem qy.mono_l:∀ k,(∀ y0 y1 y2 y3 y4 y5 y6 y7 y8,LeO (qy.f k y0 y1 y2 y3 y4 y5 y6 y7 y8) (qy.f (k+1) y0 y1 y2 y3 y4 y5 y6 y7 y8))∧(∀ y0 y1 y2 y3 y4,LeO (qy.l0 k y0 y1 y2 y3 y4) (qy.l0 (k+1) y0 y1 y2 y3 y4))
  | 0=>⟨fun _ _ _ _ _ _ _ _ _ r h=>by simp [qy.f] at h,fun _ _ _ _ _ r h=>by simp [qy.l0] at h⟩
  | k+1=>by
    obtain ⟨ih0,ih1⟩:=qy.mono_l k
    refine⟨?_,?_⟩
    · intro y0 y1 y2 y3 y4 y5 y6 y7 y8
      unfold qy.f
      repeat' first
      | (with_reducible first|exact ih0 _ _ _ _ _ _ _ _ _|exact ih1 _ _ _ _ _|exact LeO.refl _|exact LeO.none _|refine LeO.ite ?_ ?_|refine LeO.bind ?_ (fun _=>?_))
      | exact ih0 _ _ _ _ _ _ _ _ _
      | exact ih1 _ _ _ _ _
      | exact LeO.none _
      | refine LeO.ite ?_ ?_
      | refine LeO.bind ?_ (fun _=>?_)
    intro y0 y1 y2 y3 y4
    unfold qy.l0
    repeat' first
    | (with_reducible first|exact ih0 _ _ _ _ _ _ _ _ _|exact ih1 _ _ _ _ _|exact LeO.refl _|exact LeO.none _|refine LeO.ite ?_ ?_|refine LeO.bind ?_ (fun _=>?_))
    | exact ih0 _ _ _ _ _ _ _ _ _
    | exact ih1 _ _ _ _ _
    | exact LeO.none _
    | refine LeO.ite ?_ ?_
    | refine LeO.bind ?_ (fun _=>?_)
theorem qy.mono:∀ a0 a1 a2 a3 a4 a5 a6 a7 a8 k,LeO (qy.f k a0 a1 a2 a3 a4 a5 a6 a7 a8) (qy.f (k+1) a0 a1 a2 a3 a4 a5 a6 a7 a8):=by
  intro a0 a1 a2 a3 a4 a5 a6 a7 a8 k
  obtain ⟨ih0,ih1⟩:=qy.mono_l k
  exact ih0 a0 a1 a2 a3 a4 a5 a6 a7 a8
set_option maxHeartbeats 8000000 in
set_option maxRecDepth 100000 in
theorem qy.calls (k:Nat):∀ (a0_0:Int) (a0_1:Int) (a0_2:Int) (a0_3:ByteArray) (a0_4:ByteArray) (a0_5:ByteArray) (a0_6:Int) (A0_7:Option Addr) (c0_7:Nat) (l0_7:List (S26)) (a1:Int) (r:Int) (w:World) (hr0_7:Kd.C k26 w A0_7 l0_7.length l0_7) (hc0_7:l0_7.length≤c0_7) (h:qy.f k a0_0 a0_1 a0_2 a0_3 a0_4 a0_5 a0_6 l0_7 a1=some r),
    Calls Tryd.prog 43 #[.agg #[.int .i64 a0_0,.int .i64 a0_1,.int .i64 a0_2,.string a0_3,.string a0_4,.string a0_5,.int .i64 a0_6,.slice A0_7 l0_7.length c0_7],.int .i64 a1] w fun e w'=>e = .returned (.int .i64 r)∧Below w.heap.size w w':=by
  induction k using Nat.strongRecOn with
  | _ k ih=>
  intro a0_0 a0_1 a0_2 a0_3 a0_4 a0_5 a0_6 A0_7 c0_7 l0_7 a1 r w hr0_7 hc0_7 h
  cases k with
  | zero=>exact absurd h (by simp [qy.f])
  | succ k=>
  simp only [qy.f] at h
  have hu26:=Tryd.underlying26
  have HR0_7:=zq.mk hr0_7
  have HC0_7:=zq.mk hc0_7
  clear hr0_7 hc0_7
  have HB:=zq.mk (Below.refl w.heap.size w)
  have H:(if a1 > 0 then(qy.l0 k a1 0 l0_7 (l0_7.length:Int) 0) else (some (0+1)))=some r:=h
  clear h
  by_cases c3:a1 > 0
  · rw [if_pos c3] at H
    have c3b0:=decide_eq_true c3
    clear c3
    have H':=zq.mk H
    clear H
    go_enter Tryd.func43,Tryd.ntmps43
    go_wp2_with (first|((with_reducible refine qc (N:=2) rfl ?_);refine qn ?hg (N:=2) ?hd (cs:=#[.int .i64 a0_0,.int .i64 a0_1,.int .i64 a0_2,.string a0_3,.string a0_4,.string a0_5,.int .i64 a0_6,.slice A0_7 l0_7.length c0_7]) (t:=26) ?hr ?_;(case hd=>rfl);(case hg=>rfl);(case hr=>first|(go_simp;done)|(go_simp;rfl));intro gb162 hg w4 hbox hb;have BK162:=zq.mk (hbox);have GW162:=zq.mk ((by rw [hg];exact(zw bw):w.heap.size≤gb162));have GE162:=zq.mk ((by rw [hg];exact(zw bw):w.heap.size≤gb162));replace HB:=zq.mk (zc bw hb);clear hb hbox hg;obtain ⟨hcz5_0,hcz5_1,hcz5_2,hcz5_3,hcz5_4,hcz5_5,hcz5_6,hcz5_7,hfz5_0,hfz5_1,hfz5_2,hfz5_3,hfz5_4,hfz5_5,hfz5_6,hfz5_7⟩:=zqs BK162.out))
    go_loopg [5,13] k (fun kq v5 v13 w' => ∃ (x5_1:Int) (x13_1:Int),v5 = .int .i64 x5_1∧v13 = .int .i64 x13_1∧zq (qy.l0 kq a1 x5_1 l0_7 (l0_7.length:Int) x13_1=some r)∧zq (kq≤k)∧zq (w'.heap[gb162]? = some (.cells #[.int .i64 a0_0,.int .i64 a0_1,.int .i64 a0_2,.string a0_3,.string a0_4,.string a0_5,.int .i64 a0_6,(.slice A0_7 l0_7.length c0_7)] 26 (0,0)))∧zq (Below w.heap.size w w'))
    case atStart=>exact⟨(0),(0),vr,vr,H',⟨Nat.le_refl _⟩,⟨by(with_reducible repeat(first|refine zb ?_ _|refine zf ?_|refine zg ?_ _));exact BK162.out⟩,⟨bw⟩⟩
    case round=>
      clear H'
      (try clear c3);(try clear c3b0);(try clear hcz5_0);(try clear hcz5_1);(try clear hcz5_2);(try clear hcz5_3);(try clear hcz5_4);(try clear hcz5_5);(try clear hcz5_6);(try clear hcz5_7);(try clear hfz5_0);(try clear hfz5_1);(try clear hfz5_2);(try clear hfz5_3);(try clear hfz5_4);(try clear hfz5_5);(try clear hfz5_6);(try clear hfz5_7)
      (try clear BK162)
      obtain ⟨x5_1,x13_1,rfl,rfl,HA,HK1,BK162,HB⟩:=hrel
      cases gk with
      | zero=>exact absurd HA.out (by simp [qy.l0])
      | succ k1=>
        have H:=HA.out
        clear HA
        simp only [qy.l0] at H
        by_cases c6:x13_1<(l0_7.length:Int)
        · rw [if_pos c6] at H
          have c6b0:=decide_eq_true c6
          clear c6
          by_cases c7:0≤x13_1
          · rw [if_pos c7] at H
            have c7b0:=decide_eq_true c7
            clear c7
            by_cases c8:x13_1<(l0_7.length:Int)
            · rw [if_pos c8] at H
              have c8b0:=decide_eq_true c8
              clear c8
              replace H:=Option.bind_eq_some_iff.mp H
              obtain ⟨t165,A90,H⟩:=H
              replace H:(qy.l0 k1 a1 (mx x5_1 t165) l0_7 (l0_7.length:Int) (wrap64 (x13_1+1)))=some r:=H
              have A9:=zq.mk A90
              clear A90
              obtain ⟨ji10,hji10⟩:∃ j_:Int,(mx x5_1 t165)=j_:=⟨_,rfl⟩
              replace H:(qy.l0 k1 a1 ji10 l0_7 (l0_7.length:Int) (wrap64 (x13_1+1)))=some r:=by first|(rw [hji10] at H;exact H)|(simp only [hji10] at H ⊢;exact H)
              (try rw [hji10] at A9)
              have hji10_:(if x5_1<t165 then t165 else x5_1)=ji10:=hji10
              have H':=zq.mk H
              clear H
              have p163:0≤(x13_1:Int):=dt
              have q163:x13_1<(l0_7.length:Int):=dt
              obtain ⟨ad163,A163_7,c163_7,e163,hx163_0,hx163_1,hx163_2,hx163_3,hx163_4,hx163_5,hx163_6,hx163_7,hl163_7,hi163_7⟩:=zx4 HR0_7.out x13_1 p163 q163
              cases e163
              replace hx163_0:=(HB.out.cell (World.block_lt_of_cell? w _ hx163_0)).trans hx163_0
              replace hx163_1:=(HB.out.cell (World.block_lt_of_cell? w _ hx163_1)).trans hx163_1
              replace hx163_2:=(HB.out.cell (World.block_lt_of_cell? w _ hx163_2)).trans hx163_2
              replace hx163_3:=(HB.out.cell (World.block_lt_of_cell? w _ hx163_3)).trans hx163_3
              replace hx163_4:=(HB.out.cell (World.block_lt_of_cell? w _ hx163_4)).trans hx163_4
              replace hx163_5:=(HB.out.cell (World.block_lt_of_cell? w _ hx163_5)).trans hx163_5
              replace hx163_6:=(HB.out.cell (World.block_lt_of_cell? w _ hx163_6)).trans hx163_6
              replace hx163_7:=(HB.out.cell (World.block_lt_of_cell? w _ hx163_7)).trans hx163_7
              have HR163_7:=zq.mk hi163_7
              have HC163_7:=zq.mk hl163_7
              clear hi163_7 hl163_7
              replace p163:=eq_true p163
              replace q163:=eq_true q163
              go_wp2_with (first|((with_reducible refine qc (N:=7) rfl ?_);refine qn ?hg (N:=7) ?hd (cs:=#[.int .i64 0,.int .i64 0,.int .i64 0,.string (⟨#[]⟩:ByteArray),.string (⟨#[]⟩:ByteArray),.string (⟨#[]⟩:ByteArray),.int .i64 0,.slice none 0 0]) (t:=26) ?hr ?_;(case hd=>rfl);(case hg=>rfl);(case hr=>first|(go_simp;done)|(go_simp;rfl));intro gb164 hg w11 hbox hb;have BK164:=zq.mk (hbox);have GW164:=zq.mk ((by rw [hg];exact(zw bw):w.heap.size≤gb164));have GE164:=zq.mk ((by rw [hg];exact(zw bw):w.heap.size≤gb164));replace HB:=zq.mk (zc bw hb);have NB162_164:=zq.mk ((by rw [hg];exact Nat.ne_of_lt (qd (g:=gb162) (o:=.cells #[.int .i64 a0_0,.int .i64 a0_1,.int .i64 a0_2,.string a0_3,.string a0_4,.string a0_5,.int .i64 a0_6,.slice (some ad163) l0_7.length c0_7] 26 (0,0)) (up BK162.out)):gb162≠gb164));have NB164_162:=zq.mk ((by rw [hg];exact Nat.ne_of_gt (qd (g:=gb162) (o:=.cells #[.int .i64 a0_0,.int .i64 a0_1,.int .i64 a0_2,.string a0_3,.string a0_4,.string a0_5,.int .i64 a0_6,.slice (some ad163) l0_7.length c0_7] 26 (0,0)) (up BK162.out)):gb164≠gb162));replace BK162:=zq.mk (zl (g:=gb162) (o:=.cells #[.int .i64 a0_0,.int .i64 a0_1,.int .i64 a0_2,.string a0_3,.string a0_4,.string a0_5,.int .i64 a0_6,.slice (some ad163) l0_7.length c0_7] 26 (0,0)) (up BK162.out) hb);clear hb hbox hg;have hnb12:=NB164_162.out;have hnc12:=NB162_164.out;obtain ⟨hcz13_0,hcz13_1,hcz13_2,hcz13_3,hcz13_4,hcz13_5,hcz13_6,hcz13_7,hfz13_0,hfz13_1,hfz13_2,hfz13_3,hfz13_4,hfz13_5,hfz13_6,hfz13_7⟩:=zqs BK164.out)|((with_reducible refine zo (f:=43) rfl ?_);refine qo (some 21) rfl rfl Tryd.func43 (by kernel_rfl) rfl #[.agg #[.int .i64 ((qr l0_7 x13_1).f0),.int .i64 ((qr l0_7 x13_1).f1.f0),.int .i64 ((qr l0_7 x13_1).f1.f1),.string ((qr l0_7 x13_1).f1.f2),.string ((qr l0_7 x13_1).f2),.string ((qr l0_7 x13_1).f3),.int .i64 ((qr l0_7 x13_1).f4),.slice A163_7 ((qr l0_7 x13_1).f5).length c163_7],.int .i64 (wrap64 (a1 - 1))] rfl gs ?_;(with_reducible refine(ih k1 (by have:=HK1.out;omega) ((qr l0_7 x13_1).f0) ((qr l0_7 x13_1).f1.f0) ((qr l0_7 x13_1).f1.f1) ((qr l0_7 x13_1).f1.f2) ((qr l0_7 x13_1).f2) ((qr l0_7 x13_1).f3) ((qr l0_7 x13_1).f4) _ _ ((qr l0_7 x13_1).f5) (wrap64 (a1 - 1)) t165 _ ?side1 ?side2 A9.out).mono ?_);(case side1=>exact Kd.zqe HR163_7.out bw);(case side2=>exact HC163_7.out);rintro e w14 ⟨rfl,hb⟩;refine⟨_,rfl,?_⟩;replace BK162:=zq.mk (zl (g:=gb162) (o:=.cells #[.int .i64 a0_0,.int .i64 a0_1,.int .i64 a0_2,.string a0_3,.string a0_4,.string a0_5,.int .i64 a0_6,.slice (some ad163) l0_7.length c0_7] 26 (0,0)) (by(with_reducible repeat(first|refine zb ?_ _|refine zf ?_|refine zg ?_ _));refine zqv ?_ NB162_164.out _;(with_reducible repeat(first|refine zb ?_ _|refine zf ?_|refine zg ?_ _));refine zqv ?_ NB162_164.out _;(with_reducible repeat(first|refine zb ?_ _|refine zf ?_|refine zg ?_ _));refine zqv ?_ NB162_164.out _;(with_reducible repeat(first|refine zb ?_ _|refine zf ?_|refine zg ?_ _));refine zqv ?_ NB162_164.out _;(with_reducible repeat(first|refine zb ?_ _|refine zf ?_|refine zg ?_ _));refine zqv ?_ NB162_164.out _;(with_reducible repeat(first|refine zb ?_ _|refine zf ?_|refine zg ?_ _));refine zqv ?_ NB162_164.out _;(with_reducible repeat(first|refine zb ?_ _|refine zf ?_|refine zg ?_ _));refine zqv ?_ NB162_164.out _;(with_reducible repeat(first|refine zb ?_ _|refine zf ?_|refine zg ?_ _));refine zqv ?_ NB162_164.out _;(with_reducible repeat(first|refine zb ?_ _|refine zf ?_|refine zg ?_ _));exact BK162.out) hb);replace BK164:=zq.mk (zl (g:=gb164) (o:=.cells #[.int .i64 ((qr l0_7 x13_1).f0),.int .i64 ((qr l0_7 x13_1).f1.f0),.int .i64 ((qr l0_7 x13_1).f1.f1),.string ((qr l0_7 x13_1).f1.f2),.string ((qr l0_7 x13_1).f2),.string ((qr l0_7 x13_1).f3),.int .i64 ((qr l0_7 x13_1).f4),.slice A163_7 ((qr l0_7 x13_1).f5).length c163_7] 26 (0,0)) (by(with_reducible repeat(first|refine zb ?_ _|refine zf ?_|refine zg ?_ _));refine zr (cs:=#[.int .i64 ((qr l0_7 x13_1).f0),.int .i64 ((qr l0_7 x13_1).f1.f0),.int .i64 ((qr l0_7 x13_1).f1.f1),.string ((qr l0_7 x13_1).f1.f2),.string ((qr l0_7 x13_1).f2),.string ((qr l0_7 x13_1).f3),.int .i64 ((qr l0_7 x13_1).f4),.slice none 0 0]) ?_ 7 _ rfl;(with_reducible repeat(first|refine zb ?_ _|refine zf ?_|refine zg ?_ _));refine zr (cs:=#[.int .i64 ((qr l0_7 x13_1).f0),.int .i64 ((qr l0_7 x13_1).f1.f0),.int .i64 ((qr l0_7 x13_1).f1.f1),.string ((qr l0_7 x13_1).f1.f2),.string ((qr l0_7 x13_1).f2),.string ((qr l0_7 x13_1).f3),.int .i64 0,.slice none 0 0]) ?_ 6 _ rfl;(with_reducible repeat(first|refine zb ?_ _|refine zf ?_|refine zg ?_ _));refine zr (cs:=#[.int .i64 ((qr l0_7 x13_1).f0),.int .i64 ((qr l0_7 x13_1).f1.f0),.int .i64 ((qr l0_7 x13_1).f1.f1),.string ((qr l0_7 x13_1).f1.f2),.string ((qr l0_7 x13_1).f2),.string (⟨#[]⟩:ByteArray),.int .i64 0,.slice none 0 0]) ?_ 5 _ rfl;(with_reducible repeat(first|refine zb ?_ _|refine zf ?_|refine zg ?_ _));refine zr (cs:=#[.int .i64 ((qr l0_7 x13_1).f0),.int .i64 ((qr l0_7 x13_1).f1.f0),.int .i64 ((qr l0_7 x13_1).f1.f1),.string ((qr l0_7 x13_1).f1.f2),.string (⟨#[]⟩:ByteArray),.string (⟨#[]⟩:ByteArray),.int .i64 0,.slice none 0 0]) ?_ 4 _ rfl;(with_reducible repeat(first|refine zb ?_ _|refine zf ?_|refine zg ?_ _));refine zr (cs:=#[.int .i64 ((qr l0_7 x13_1).f0),.int .i64 ((qr l0_7 x13_1).f1.f0),.int .i64 ((qr l0_7 x13_1).f1.f1),.string (⟨#[]⟩:ByteArray),.string (⟨#[]⟩:ByteArray),.string (⟨#[]⟩:ByteArray),.int .i64 0,.slice none 0 0]) ?_ 3 _ rfl;(with_reducible repeat(first|refine zb ?_ _|refine zf ?_|refine zg ?_ _));refine zr (cs:=#[.int .i64 ((qr l0_7 x13_1).f0),.int .i64 ((qr l0_7 x13_1).f1.f0),.int .i64 0,.string (⟨#[]⟩:ByteArray),.string (⟨#[]⟩:ByteArray),.string (⟨#[]⟩:ByteArray),.int .i64 0,.slice none 0 0]) ?_ 2 _ rfl;(with_reducible repeat(first|refine zb ?_ _|refine zf ?_|refine zg ?_ _));refine zr (cs:=#[.int .i64 ((qr l0_7 x13_1).f0),.int .i64 0,.int .i64 0,.string (⟨#[]⟩:ByteArray),.string (⟨#[]⟩:ByteArray),.string (⟨#[]⟩:ByteArray),.int .i64 0,.slice none 0 0]) ?_ 1 _ rfl;(with_reducible repeat(first|refine zb ?_ _|refine zf ?_|refine zg ?_ _));refine zr (cs:=#[.int .i64 0,.int .i64 0,.int .i64 0,.string (⟨#[]⟩:ByteArray),.string (⟨#[]⟩:ByteArray),.string (⟨#[]⟩:ByteArray),.int .i64 0,.slice none 0 0]) ?_ 0 _ rfl;(with_reducible repeat(first|refine zb ?_ _|refine zf ?_|refine zg ?_ _));exact BK164.out) hb);replace HB:=zq.mk (zc bw hb);(try clear hb);(try clear hb2);(try clear hk);(try clear hi)))
              go_roundg k1
              case measure=>have:=HK1.out;omega
              case rel=>exact⟨(ji10),(wrap64 (x13_1+1)),(by first|rfl|(simp;done)|(simp only [← hji10] <;> (first|rfl|simp))|(simp [*];done)|(generalize ByteArray.toList _=q_;cases q_ <;> rfl)),vr,H',⟨by have:=HK1.out;omega⟩,⟨by(with_reducible repeat(first|refine zb ?_ _|refine zf ?_|refine zg ?_ _));exact BK162.out⟩,⟨bw⟩⟩
            rw [if_neg c8] at H
            exact absurd H (by simp)
          rw [if_neg c7] at H
          exact absurd H (by simp)
        rw [if_neg c6] at H
        have c6b0:=decide_eq_false c6
        clear c6
        obtain rfl:=Option.some.inj H
        go_wp2
        go_ret
        exact⟨by first|rfl|(simp [zk,zx] <;> rfl)|(simp [*,zk,zx] <;> rfl),bw⟩
  rw [if_neg c3] at H
  have c3b0:=decide_eq_false c3
  clear c3
  obtain rfl:=Option.some.inj H
  go_enter Tryd.func43,Tryd.ntmps43
  go_wp2_with (first|((with_reducible refine qc (N:=2) rfl ?_);refine qn ?hg (N:=2) ?hd (cs:=#[.int .i64 a0_0,.int .i64 a0_1,.int .i64 a0_2,.string a0_3,.string a0_4,.string a0_5,.int .i64 a0_6,.slice A0_7 l0_7.length c0_7]) (t:=26) ?hr ?_;(case hd=>rfl);(case hg=>rfl);(case hr=>first|(go_simp;done)|(go_simp;rfl));intro gb162 hg w15 hbox hb;have BK162:=zq.mk (hbox);have GW162:=zq.mk ((by rw [hg];exact(zw bw):w.heap.size≤gb162));have GE162:=zq.mk ((by rw [hg];exact(zw bw):w.heap.size≤gb162));replace HB:=zq.mk (zc bw hb);clear hb hbox hg))
  go_ret
  exact⟨by first|rfl|(simp [zk,zx] <;> rfl)|(simp [*,zk,zx] <;> rfl),bw⟩

end Go.Proofs.YtkgllmjlhaimcaaDoor.PEvalEvals
