-- Written by wip/pp of this repo (over the kit's print, with additions of this session); Lean checks every line.
import Derived.Test.YtmfpaeajibeikaaDoorPEvalHoldsx5
namespace Go.Proofs.YtmfpaeajibeikaaDoor.PEvalHolds
open Go.RowKit Go.Proofs.YtmfpaeajibeikaaDoorW.PrintWords Go.Proofs.YtmfpaeajibeikaaDoorW.PrintLast Go.Proofs.YtmfpaeajibeikaaDoorW.PrintMore
attribute [local go_sem] zje zjc zjo zjn zq1 zq0 zjd zjb   -- for this text's walks alone
set_option linter.unusedVariables false
set_option linter.unusedSimpArgs false

/-! ### zj: function 46, by hand -/
-- HAND rounds=1 making=1 laid=1 func=1 alone=1 after=89 after=66 after=91 after=92 after=31 after=93 after=94 imports=Derived.Deep.QuietTactic,Derived.BigQuiet,Derived.Deep.RegionHeld3,Derived.Deep.RegionWith
def zj.v (p:Int × Int × ByteArray × Int):S30:=⟨p.1,p.2.1,p.2.2.1⟩
def zj.rest (f:S33→Option (Int × Int × ByteArray × Int)) (mk:S30→S30→Option (Int × Int × ByteArray × Int)):Nat→S30→S30→List S33→Option (Int × Int × ByteArray × Int)
 | _,a,b, []=>mk a b
 | i,a,b,s :: r=>if 2≤i then none else (f s).bind fun p=>if p.2.2.2=0 then zj.rest f mk (i+1) (if i=0 then zj.v p else a) (if i=0 then b else zj.v p) r else some p
def zj.lz (f:S33→Option (Int × Int × ByteArray × Int)) (k:Nat) (z:Int) (fold:List Int→Option (Int × Int)):Nat→Int→Int→List S33→Option (Int × Int × ByteArray × Int)
 | _,a,b, []=>(fold [a,b]).bind fun q=>zq2.f k q.1 q.2
 | i,a,b,s :: r=>if 2≤i then none else (f s).bind fun p=>if p.2.2.2=0 then(zqz.f k p.1 p.2.1 p.2.2.1).bind fun q=>if q.2=0 then(if i=0∧q.1=z then zqn.f k z else zj.lz f k z fold (i+1) (if i=0 then q.1 else a) (if i=0 then b else q.1) r) else some (0,0,⟨#[]⟩,q.2) else some p
def zj.ev (row:List S30) (k:Nat):Nat→S33→Option (Int × Int × ByteArray × Int)
 | 0,_=>none
 | n+1,e=>if e.f0=3 then(if 0≤e.f4∧e.f4<row.length then some ((zqh row e.f4).f0,(zqh row e.f4).f1,(zqh row e.f4).f2,0) else none) else if e.f0=1 then some (e.f1.f0,e.f1.f1,e.f1.f2,0) else
   if e.f0=19 then zj.lz (zj.ev row k n) k 0 zqm.f 0 0 0 e.f5 else if e.f0=20 then zj.lz (zj.ev row k n) k 2 zqs.f 0 0 0 e.f5 else
   zj.rest (zj.ev row k n) (zh.of k e.f0) 0 ⟨0,0,⟨#[]⟩⟩ ⟨0,0,⟨#[]⟩⟩ e.f5
def zj.f (_k:Nat) (_a:Int):Option Bool:=none
theorem zj.mono:∀ a0 k,LeO (zj.f k a0) (zj.f (k+1) a0):=fun _ _=>LeO.refl _
theorem zj.mono_rest {f g:S33→Option (Int × Int × ByteArray × Int)} {m m':S30→S30→Option (Int × Int × ByteArray × Int)} (hf:∀ x,LeO (f x) (g x)) (hm:∀ x y,LeO (m x y) (m' x y)):∀ l i a b,LeO (zj.rest f m i a b l) (zj.rest g m' i a b l)
 | [],_,a,b=>hm a b
 | s :: r,i,a,b=>by
  unfold zj.rest
  exact LeO.ite (LeO.refl _) (LeO.bind (hf s) (fun p=>LeO.ite (zj.mono_rest hf hm r _ _ _) (LeO.refl _)))
theorem zj.mono_lz {f g:S33→Option (Int × Int × ByteArray × Int)} (k:Nat) (z:Int) (fold:List Int→Option (Int × Int)) (hf:∀ x,LeO (f x) (g x)):∀ l i a b,LeO (zj.lz f k z fold i a b l) (zj.lz g (k+1) z fold i a b l)
 | [],_,a,b=>LeO.bind (LeO.refl _) (fun q=>zq2.mono _ _ _)
 | s :: r,i,a,b=>by
  unfold zj.lz
  exact LeO.ite (LeO.refl _) (LeO.bind (hf s) (fun p=>LeO.ite (LeO.bind (zqz.mono _ _ _ _) (fun q=>LeO.ite (LeO.ite (zqn.mono _ _) (zj.mono_lz k z fold hf r _ _ _)) (LeO.refl _))) (LeO.refl _)))
theorem zj.mono_ev (row:List S30) (k:Nat):∀ n e,LeO (zj.ev row k n e) (zj.ev row (k+1) n e)
 | 0,_=>LeO.refl _
 | n+1,e=>by
  unfold zj.ev
  have ih:=zj.mono_ev row k n
  exact LeO.ite (LeO.refl _) (LeO.ite (LeO.refl _) (LeO.ite (zj.mono_lz _ _ _ ih _ _ _ _) (LeO.ite (zj.mono_lz _ _ _ ih _ _ _ _) (zj.mono_rest ih (fun x y=>zh.zx7 _ _ _ _) _ _ _ _))))
def zj.Env (row:List S30) (g:Nat) (w:World):Prop:=LD w ∧ ∃ A c,w.cell? ⟨g,0,none⟩=some (.slice A row.length c)∧Kd.C k30 w A row.length row
theorem zj.Env.ld {row:List S30} {g:Nat} {w:World} (h:zj.Env row g w):LD w:=h.1
theorem zj.Env.below {row:List S30} {g:Nat} {w w':World} (h:zj.Env row g w) (hb:Below w.heap.size w w'):zj.Env row g w':=by
 obtain ⟨hL,A,c,h1,h2⟩:=h
 exact⟨LD.below hL hb,A,c,zp hb h1,Kd.zqe h2 hb⟩
abbrev zj.w0 (e:S33) (A7:Option Addr) (c7:Nat) (w:World):World:=(w.alloc (.cells #[.int .i64 e.f0,.int .i64 e.f1.f0,.int .i64 e.f1.f1,.string e.f1.f2,.string e.f2,.string e.f3,.int .i64 e.f4,.slice A7 e.f5.length c7] 75)).alloc (.cells #[.int .i64 0,.int .i64 0,.string ⟨#[]⟩] 30)
structure zj.Kp (e:S33) (A7:Option Addr) (c7:Nat) (w W:World):Prop where mk :: (c0:W.cell? ⟨w.heap.size,0,none⟩=some (.int .i64 e.f0)) (c1:W.cell? ⟨w.heap.size,1,none⟩=some (.int .i64 e.f1.f0)) (c2:W.cell? ⟨w.heap.size,2,none⟩=some (.int .i64 e.f1.f1)) (c3:W.cell? ⟨w.heap.size,3,none⟩=some (.string e.f1.f2)) (c4:W.cell? ⟨w.heap.size,4,none⟩=some (.string e.f2)) (c5:W.cell? ⟨w.heap.size,5,none⟩=some (.string e.f3)) (c6:W.cell? ⟨w.heap.size,6,none⟩=some (.int .i64 e.f4)) (c7:W.cell? ⟨w.heap.size,7,none⟩=some (.slice A7 e.f5.length c7)) (c8:W.cell? ⟨w.heap.size+1,0,none⟩=some (.int .i64 0)) (c9:W.cell? ⟨w.heap.size+1,1,none⟩=some (.int .i64 0)) (c10:W.cell? ⟨w.heap.size+1,2,none⟩=some (.string ⟨#[]⟩)) (c11:W.frozen? ⟨w.heap.size+1,0,none⟩=false) (c12:W.frozen? ⟨w.heap.size+1,1,none⟩=false) (c13:W.frozen? ⟨w.heap.size+1,2,none⟩=false) (c14:w.heap.size<W.heap.size) (c15:w.heap.size+1<W.heap.size)
theorem zj.zq7 {e:S33} {A7:Option Addr} {c7:Nat} {w:World} : (zj.w0 e A7 c7 w).heap.size=w.heap.size+1+1:=by simp [zj.w0]
theorem zj.hz {e:S33} {A7:Option Addr} {c7:Nat} {w W:World} (hb:Below (zj.w0 e A7 c7 w).heap.size (zj.w0 e A7 c7 w) W):W.heap[w.heap.size+1]? = some (.cells #[.int .i64 0,.int .i64 0,.string ⟨#[]⟩] 30 (0,0)):=by
 have q_:(w.alloc (.cells #[.int .i64 e.f0,.int .i64 e.f1.f0,.int .i64 e.f1.f1,.string e.f1.f2,.string e.f2,.string e.f3,.int .i64 e.f4,.slice A7 e.f5.length c7] 75)).heap.size=w.heap.size+1:=by simp
 have h:=zjt (w.alloc (.cells #[.int .i64 e.f0,.int .i64 e.f1.f0,.int .i64 e.f1.f1,.string e.f1.f2,.string e.f2,.string e.f3,.int .i64 e.f4,.slice A7 e.f5.length c7] 75)) (.cells #[.int .i64 0,.int .i64 0,.string ⟨#[]⟩] 30)
 rw [q_] at h
 exact zf h hb
theorem zj.hr {e:S33} {A7:Option Addr} {c7:Nat} {w W:World} (hb:Below (zj.w0 e A7 c7 w).heap.size (zj.w0 e A7 c7 w) W):Below w.heap.size w W:=by
 have h0:Below w.heap.size w (zj.w0 e A7 c7 w):=zm (zm (Below.refl _ _) _) _
 exact h0.trans (hb.mono h0.size)
theorem zj.kp {e:S33} {A7:Option Addr} {c7:Nat} {w W:World} (hb:Below (zj.w0 e A7 c7 w).heap.size (zj.w0 e A7 c7 w) W):zj.Kp e A7 c7 w W:=by
 have hs:=hb.size
 rw [zj.zq7] at hs
 exact⟨zp hb (by simp [go_sem]),zp hb (by simp [go_sem]),zp hb (by simp [go_sem]),zp hb (by simp [go_sem]),zp hb (by simp [go_sem]),zp hb (by simp [go_sem]),zp hb (by simp [go_sem]),zp hb (by simp [go_sem]),zp hb (by simp [go_sem]),zp hb (by simp [go_sem]),zp hb (by simp [go_sem]),qy (zj.hz hb) 0,qy (zj.hz hb) 1,qy (zj.hz hb) 2,by omega,by omega⟩
theorem zj.new1 (W:World) (o o2:Obj):((W.alloc o).alloc o2).heap[W.heap.size+1]? = some o2:=by
 have q_:(W.alloc o).heap.size=W.heap.size+1:=by simp
 have h:=zjt (W.alloc o) o2
 rwa [q_] at h
set_option maxRecDepth 100000 in
set_option maxHeartbeats 4000000 in
theorem zj.of_no (e:S33) (A7:Option Addr) (c7 g:Nat) (w:World) (h3:e.f0≠3) :
  Calls Tryd.prog 47 #[.agg #[.int .i64 e.f0,.int .i64 e.f1.f0,.int .i64 e.f1.f1,.string e.f1.f2,.string e.f2,.string e.f3,.int .i64 e.f4,.slice A7 e.f5.length c7],.pointer (some ⟨g,0,none⟩)] w fun r w'=>r = .returned (.tuple #[.agg #[.int .i64 0,.int .i64 0,.string ⟨#[]⟩],.int .i64 0,.bool false])∧Below w.heap.size w w':=by
 have huv:=Tryd.underlying30
 have d3:(e.f0 != 3)=true:=by simpa using h3
 have hz:((w.alloc (.cells #[.int .i64 e.f0,.int .i64 e.f1.f0,.int .i64 e.f1.f1,.string e.f1.f2,.string e.f2,.string e.f3,.int .i64 e.f4,.slice A7 e.f5.length c7] 33)).alloc (.cells #[.int .i64 0,.int .i64 0,.string ⟨#[]⟩] 30)).heap[w.heap.size+1]? = some (.cells #[.int .i64 0,.int .i64 0,.string ⟨#[]⟩] 30 (0,0)):=by
  have q_:(w.alloc (.cells #[.int .i64 e.f0,.int .i64 e.f1.f0,.int .i64 e.f1.f1,.string e.f1.f2,.string e.f2,.string e.f3,.int .i64 e.f4,.slice A7 e.f5.length c7] 33)).heap.size=w.heap.size+1:=by simp
  have h:=zjt (w.alloc (.cells #[.int .i64 e.f0,.int .i64 e.f1.f0,.int .i64 e.f1.f1,.string e.f1.f2,.string e.f2,.string e.f3,.int .i64 e.f4,.slice A7 e.f5.length c7] 33)) (.cells #[.int .i64 0,.int .i64 0,.string ⟨#[]⟩] 30)
  rwa [q_] at h
 have HZ:=zq.mk hz
 clear h3 hz
 go_enter Tryd.func47,Tryd.ntmps47
 go_wp2
 have HVX:=HZ.out
 refine bodyPost_ret (qm (rs := [.cell 3 30,.tmp 4,.tmp 5]) rfl (by simp) (.cell (w.heap.size+1) 30 _ (0,0) _ rfl HVX huv rfl (by kernel_rfl) (.tmp (.tmp .nil)))) rfl ?_
 exact⟨rfl,zm (zm (Below.refl _ _) _) _⟩
theorem zj.vat {w:World} {A:Option Addr} {l:List S30} (h:Kd.C k30 w A l.length l) (i:Int) (h0:0≤i) (h1:i<l.length):∃ b o,A=some ⟨b,o,none⟩∧w.cell? ⟨b,o+i.toNat * 3,none⟩=some (.int .i64 (zqh l i).f0)∧w.cell? ⟨b,o+i.toNat * 3+1,none⟩=some (.int .i64 (zqh l i).f1)∧w.cell? ⟨b,o+i.toNat * 3+2,none⟩=some (.string (zqh l i).f2):=by
 have spot:∀ ad:Addr,(∃ v,w.cell? ad=some v)→ad.spot=none:=by
  rintro ⟨b,o,sp⟩ ⟨v,hv⟩
  cases sp with
  | none=>rfl
  | some s=>
   exfalso
   unfold World.cell? at hv
   split at hv
   ·simp at hv
   cases hv
 obtain ⟨ad,rfl,g0,_⟩:=zxn h 0 (by omega) (by omega)
 have hs:ad.spot=none:=by
  rw [show ad.add ((0:Int).toNat * 3)=ad from by simp [Addr.add]] at g0
  exact spot _ ⟨_,g0⟩
 obtain ⟨b,o,sp⟩:=ad
 dsimp only at hs
 subst hs
 refine⟨b,o,rfl,?_⟩
 obtain ⟨ad,e,g0,g1,g2⟩:=zxn h i h0 h1
 cases e
 have ha:(⟨b,o,none⟩:Addr).add (i.toNat * 3)=⟨b,o+i.toNat * 3,none⟩:=by unfold Addr.add;split <;> simp_all
 rw [ha] at g0 g1 g2
 exact⟨g0,g1,g2⟩
set_option maxRecDepth 100000 in
set_option maxHeartbeats 4000000 in
theorem zj.of_yes (row:List S30) (e:S33) (A7:Option Addr) (c7 g:Nat) (w:World) (he:zj.Env row g w) (h3:e.f0=3) (h0:0≤e.f4) (h1:e.f4<row.length) :
  Calls Tryd.prog 47 #[.agg #[.int .i64 e.f0,.int .i64 e.f1.f0,.int .i64 e.f1.f1,.string e.f1.f2,.string e.f2,.string e.f3,.int .i64 e.f4,.slice A7 e.f5.length c7],.pointer (some ⟨g,0,none⟩)] w fun r w'=>r = .returned (.tuple #[.agg #[.int .i64 (zqh row e.f4).f0,.int .i64 (zqh row e.f4).f1,.string (zqh row e.f4).f2],.int .i64 0,.bool true])∧Below w.heap.size w w':=by
 have huv:=Tryd.underlying30
 have d3:(e.f0 != 3)=false:=by simpa using h3
 obtain ⟨_,A,c,hg,hc⟩:=he
 obtain ⟨b,o,rfl,c0,c1,c2⟩:=zj.vat hc e.f4 h0 h1
 have hgl:g<w.heap.size:=World.block_lt_of_cell? w _ hg
 have hbl:b<w.heap.size:=World.block_lt_of_cell? w _ c0
 have hm:=hc.2.1
 obtain ⟨i,hi⟩:∃ i:Nat,e.f4=i:=⟨e.f4.toNat,by omega⟩
 generalize zqh row e.f4=x at *
 rw [hi,Int.toNat_natCast] at c0 c1 c2
 have hil:i<row.length:=by omega
 obtain ⟨e0,e1,e2,e3,e4,e5⟩:=e
 dsimp only at *
 subst hi
 clear h3 hc h0 h1
 go_enter Tryd.func47,Tryd.ntmps47
 go_wp2
 have HVX:=zj.new1 w (.cells #[.int .i64 e0,.int .i64 e1.f0,.int .i64 e1.f1,.string e1.f2,.string e2,.string e3,.int .i64 i,.slice A7 e5.length c7] 33) (.cells #[.int .i64 x.f0,.int .i64 x.f1,.string x.f2] 30)
 refine bodyPost_ret (qm (rs := [.cell 3 30,.tmp 4,.tmp 5]) rfl (by simp) (.cell (w.heap.size+1) 30 _ (0,0) _ rfl HVX huv rfl (by kernel_rfl) (.tmp (.tmp .nil)))) rfl ?_
 exact⟨rfl,zm (zm (Below.refl _ _) _) _⟩
theorem zj.made (row:List S30) (A:Option Addr) (n c:Nat) (w:World):Calls Tryd.prog 30 #[.slice A n c] w fun x w'=>x = .returned (.func (.func 47) #[] #[.pointer (some ⟨w.heap.size,0,none⟩)])∧w'=w.alloc (.cells #[.slice A n c] 34):=by
 go_enter Tryd.func30,Tryd.ntmps30
 go_wp2
 go_ret
 exact⟨rfl,rfl⟩
theorem zj.zka (W:World) (a b:Int):Kd.C (Kd.int .i64) (W.alloc (.cells #[.int .i64 a,.int .i64 b] 3)) (some ⟨W.heap.size,0,none⟩) 2 [a,b]:=by
 refine⟨rfl,by decide,fun _=>⟨_,rfl,fun j p hj=>⟨[.int .i64 p],rfl,rfl,fun i u hu=>?_⟩⟩⟩
 obtain ⟨rfl,rfl⟩:i=0 ∧ .int .i64 p=u:=by
  cases i with
  | zero=>exact⟨rfl,by simpa using hu⟩
  | succ i=>simp at hu
 match j,hj with
 | 0,hj=>
  obtain rfl:a=p:=by simpa using hj
  simp [go_sem,Addr.add,Kd.int,Kd.scalar]
 | 1,hj=>
  obtain rfl:b=p:=by simpa using hj
  simp [go_sem,Addr.add,Kd.int,Kd.scalar]
 | j+2,hj=>simp at hj
set_option maxRecDepth 100000 in
set_option maxHeartbeats 16000000 in
theorem zj.lazy_19 (row:List S30) (k:Nat) (f:S33→Option (Int × Int × ByteArray × Int)) (g:Nat) (hi:∀ (x:S33) (A8:Option Addr) (c8:Nat) (q1 q2:Int) (q3:ByteArray) (q4:Int) (W:World),zj.Env row g W→Kd.C k33 W A8 x.f5.length x.f5→x.f5.length≤c8→f x=some (q1,q2,q3,q4)→Calls Tryd.prog 46 #[.agg #[.int .i64 x.f0,.int .i64 x.f1.f0,.int .i64 x.f1.f1,.string x.f1.f2,.string x.f2,.string x.f3,.int .i64 x.f4,.slice A8 x.f5.length c8],.func (.func 47) #[] #[.pointer (some ⟨g,0,none⟩)]] W fun e w'=>e = .returned (.tuple #[.agg #[.int .i64 q1,.int .i64 q2,.string q3],.int .i64 q4])∧Below W.heap.size W w')
  (e:S33) (A7:Option Addr) (c7:Nat) (r1 r2:Int) (r3:ByteArray) (r4:Int) (w:World) (he:zj.Env row g w) (hr:Kd.C k33 w A7 e.f5.length e.f5) (hc:e.f5.length≤c7) (ho:e.f0=19) (h:zj.lz f k 0 zqm.f 0 0 0 e.f5=some (r1,r2,r3,r4)) :
  Calls Tryd.prog 65 #[.agg #[.int .i64 e.f0,.int .i64 e.f1.f0,.int .i64 e.f1.f1,.string e.f1.f2,.string e.f2,.string e.f3,.int .i64 e.f4,.slice A7 e.f5.length c7],.func (.func 47) #[] #[.pointer (some ⟨g,0,none⟩)]] w fun e w'=>e = .returned (.tuple #[.agg #[.int .i64 r1,.int .i64 r2,.string r3],.int .i64 r4])∧Below w.heap.size w w':=by
 have huv:=Tryd.underlying30
 have hm:=hr.2.1
 have d20:(e.f0 == 20)=false:=by simp [ho]
 have HE:=zq.mk he
 have HRR:=zq.mk hr
 have HII:=zq.mk hi
 have HS:=zq.mk h
 clear he hr hi ho h
 go_enter Tryd.func65,Tryd.ntmps65
 go_wp2
 go_loopw [19] (fun i wr => ∃ j:Nat,j≤e.f5.length∧i = .int .i64 j ∧ ∃ a b:Int,zq (zj.lz f k 0 zqm.f j a b (e.f5.drop j)=some (r1,r2,r3,r4))∧zq (Below (zj.w0 e A7 c7 w).heap.size (zj.w0 e A7 c7 w) wr)∧zq (wr.heap[w.heap.size+1+1]? = some (.cells #[.int .i64 a,.int .i64 b] 116 (0,0)))) (fun i _=>e.f5.length - (intOf i).toNat)
 case atStart=>exact⟨0,by omega,rfl,0,0,⟨by rw [List.drop_zero];exact HS.out⟩,⟨zm (Below.refl _ _) _⟩,⟨by have h:=zjt (zj.w0 e A7 c7 w) (.cells #[.int .i64 0,.int .i64 0] 116);rwa [zj.zq7] at h⟩⟩
 case round=>
  clear HS
  obtain ⟨j,hj,rfl,a,b,HS,HB,HG⟩:=hrel
  by_cases hlt:j<e.f5.length
  ·cases zj.kp HB.out
   have hgl:=qf HG.out
   obtain ⟨bb,oo,rfl,hcs⟩:=qq.at_ (Kd.zqe HRR.out (zj.hr HB.out)) (by omega)
   obtain ⟨A8,c8,p0,p1,p2,p3,p4,p5,p6,p7,l8,r8⟩:=hcs j hlt
   have hs:=HS.out
   rw [List.drop_eq_getElem_cons hlt,zj.lz] at hs
   by_cases j2:2≤j
   ·rw [if_pos j2] at hs;cases hs
   rw [if_neg j2] at hs
   generalize e.f5[j]=x at *
   obtain ⟨⟨q1,q2,q3,q4⟩,hq,ht⟩:=Option.bind_eq_some_iff.1 hs
   clear hs
   dsimp only at ht
   have hs:=ht
   clear ht
   have hba:=zm (Below.refl wr.heap.size wr) (.cells #[.int .i64 x.f0,.int .i64 x.f1.f0,.int .i64 x.f1.f1,.string x.f1.f2,.string x.f2,.string x.f3,.int .i64 x.f4,.slice A8 x.f5.length c8] 33)
   have HCA:=zq.mk (HII.out x A8 c8 q1 q2 q3 q4 _ ((HE.out.below (zj.hr HB.out)).below hba) (Kd.zqe r8 hba) l8 hq)
   have HBA:=zq.mk (zm HB.out (.cells #[.int .i64 x.f0,.int .i64 x.f1.f0,.int .i64 x.f1.f1,.string x.f1.f2,.string x.f2,.string x.f3,.int .i64 x.f4,.slice A8 x.f5.length c8] 33))
   have HGA:=zq.mk (zy HG.out (.cells #[.int .i64 x.f0,.int .i64 x.f1.f0,.int .i64 x.f1.f1,.string x.f1.f2,.string x.f2,.string x.f3,.int .i64 x.f4,.slice A8 x.f5.length c8] 33))
   clear hba hq r8 hcs HS
   by_cases z:q4=0
   ·rw [if_pos z] at hs
    subst z
    obtain ⟨⟨u,v⟩,hu,hs⟩:=Option.bind_eq_some_iff.1 hs
    dsimp only at hs
    have HU:=zq.mk hu
    clear hu
    by_cases y:v=0
    ·rw [if_pos y] at hs
     subst y
     obtain rfl|rfl:j=0∨j=1:=by omega
     ·simp only [Nat.zero_mul,Nat.add_zero] at p0 p1 p2 p3 p4 p5 p6 p7
      by_cases t:u=0
      ·rw [if_pos ⟨rfl,t⟩] at hs
       have dt:(u == 0)=true:=by simpa using t
       have HO:=zq.mk hs
       clear hs t
       go_wp2_with (first|(go_at_call 46;(with_reducible refine HCA.out.mono ?_);rintro z w4 ⟨rfl,hb4⟩;have HB4:=zq.mk (HBA.out.trans (hb4.mono HBA.out.size));have HG4:=zq.mk ((hb4.block _ (qf HGA.out)).trans HGA.out);clear hb4;cases zj.kp HB4.out;have hl4:=qf HG4.out;have y4_0:w4.cell? ⟨w.heap.size+1+1,0,none⟩=some (.int .i64 a):=(zo HG4.out 0).trans rfl;have z4_0:=qy HG4.out 0;have y4_1:w4.cell? ⟨w.heap.size+1+1,1,none⟩=some (.int .i64 b):=(zo HG4.out 1).trans rfl;have z4_1:=qy HG4.out 1)|(go_at_call 31;(with_reducible refine(zqz.calls k _ _ _ u _ _ (LD.below HE.out.ld (zj.hr (zm HB4.out _))) HU.out).mono ?_);rintro z w5 ⟨rfl,hb5⟩;have HB5:=zq.mk ((zm HB4.out _).trans (hb5.mono (zm HB4.out _).size));have HG5:=zq.mk ((hb5.block _ (qf (zy HG4.out _))).trans (zy HG4.out _));clear hb5;cases zj.kp HB5.out;have hl5:=qf HG5.out;have y5_0:w5.cell? ⟨w.heap.size+1+1,0,none⟩=some (.int .i64 a):=(zo HG5.out 0).trans rfl;have z5_0:=qy HG5.out 0;have y5_1:w5.cell? ⟨w.heap.size+1+1,1,none⟩=some (.int .i64 b):=(zo HG5.out 1).trans rfl;have z5_1:=qy HG5.out 1)|(go_at_call 93;(with_reducible refine(zqn.calls k _ r1 r2 r3 r4 _ HO.out).mono ?_);rintro z w6 ⟨rfl,hb6⟩;have HB6:=zq.mk ((HB5.out.setCell (p:=⟨w.heap.size+1+1,0,none⟩) (Nat.le_of_eq zj.zq7) _).trans (hb6.mono (HB5.out.setCell (p:=⟨w.heap.size+1+1,0,none⟩) (Nat.le_of_eq zj.zq7) _).size));clear hb6;cases zj.kp HB6.out))
       have HVX:=(zl (zl (zl (zj.hz HB6.out) 0 (.int .i64 r1) rfl) 1 (.int .i64 r2) rfl) 2 (.string r3) rfl)
       refine bodyPost_ret (qm (rs := [.cell 4 30,.tmp 5]) rfl (by simp) (.cell (w.heap.size+1) 30 _ (0,0) _ rfl HVX huv rfl (by kernel_rfl) (.tmp .nil))) rfl ?_
       exact⟨rfl,(((zj.hr HB6.out).setCell (p:=⟨w.heap.size+1,0,none⟩) (by simp <;> omega) _).setCell (p:=⟨w.heap.size+1,1,none⟩) (by simp <;> omega) _).setCell (p:=⟨w.heap.size+1,2,none⟩) (by simp <;> omega) _⟩
      rw [if_neg (fun h_=>t h_.2),if_pos rfl,if_pos rfl] at hs
      have dt:(u == 0)=false:=by simpa using t
      have HS:=zq.mk hs
      clear hs t
      go_wp2_with (first|(go_at_call 46;(with_reducible refine HCA.out.mono ?_);rintro z w4 ⟨rfl,hb4⟩;have HB4:=zq.mk (HBA.out.trans (hb4.mono HBA.out.size));have HG4:=zq.mk ((hb4.block _ (qf HGA.out)).trans HGA.out);clear hb4;cases zj.kp HB4.out;have hl4:=qf HG4.out;have y4_0:w4.cell? ⟨w.heap.size+1+1,0,none⟩=some (.int .i64 a):=(zo HG4.out 0).trans rfl;have z4_0:=qy HG4.out 0;have y4_1:w4.cell? ⟨w.heap.size+1+1,1,none⟩=some (.int .i64 b):=(zo HG4.out 1).trans rfl;have z4_1:=qy HG4.out 1)|(go_at_call 31;(with_reducible refine(zqz.calls k _ _ _ u _ _ (LD.below HE.out.ld (zj.hr (zm HB4.out _))) HU.out).mono ?_);rintro z w5 ⟨rfl,hb5⟩;have HB5:=zq.mk ((zm HB4.out _).trans (hb5.mono (zm HB4.out _).size));have HG5:=zq.mk ((hb5.block _ (qf (zy HG4.out _))).trans (zy HG4.out _));clear hb5;cases zj.kp HB5.out;have hl5:=qf HG5.out;have y5_0:w5.cell? ⟨w.heap.size+1+1,0,none⟩=some (.int .i64 a):=(zo HG5.out 0).trans rfl;have z5_0:=qy HG5.out 0;have y5_1:w5.cell? ⟨w.heap.size+1+1,1,none⟩=some (.int .i64 b):=(zo HG5.out 1).trans rfl;have z5_1:=qy HG5.out 1))
      go_roundw
      case rel=>exact⟨1,by omega,by go_num,u,b,HS,⟨HB5.out.setCell (p:=⟨w.heap.size+1+1,0,none⟩) (Nat.le_of_eq zj.zq7) (.int .i64 u)⟩,⟨zl HG5.out 0 (.int .i64 u) rfl⟩⟩
      case measure=>simp [intOf];omega
     rw [if_neg (fun h_=>by cases h_.1),if_neg (by decide),if_neg (by decide)] at hs
     have HS:=zq.mk hs
     clear hs
     go_wp2_with (first|(go_at_call 46;(with_reducible refine HCA.out.mono ?_);rintro z w4 ⟨rfl,hb4⟩;have HB4:=zq.mk (HBA.out.trans (hb4.mono HBA.out.size));have HG4:=zq.mk ((hb4.block _ (qf HGA.out)).trans HGA.out);clear hb4;cases zj.kp HB4.out;have hl4:=qf HG4.out;have y4_0:w4.cell? ⟨w.heap.size+1+1,0,none⟩=some (.int .i64 a):=(zo HG4.out 0).trans rfl;have z4_0:=qy HG4.out 0;have y4_1:w4.cell? ⟨w.heap.size+1+1,1,none⟩=some (.int .i64 b):=(zo HG4.out 1).trans rfl;have z4_1:=qy HG4.out 1)|(go_at_call 31;(with_reducible refine(zqz.calls k _ _ _ u _ _ (LD.below HE.out.ld (zj.hr (zm HB4.out _))) HU.out).mono ?_);rintro z w5 ⟨rfl,hb5⟩;have HB5:=zq.mk ((zm HB4.out _).trans (hb5.mono (zm HB4.out _).size));have HG5:=zq.mk ((hb5.block _ (qf (zy HG4.out _))).trans (zy HG4.out _));clear hb5;cases zj.kp HB5.out;have hl5:=qf HG5.out;have y5_0:w5.cell? ⟨w.heap.size+1+1,0,none⟩=some (.int .i64 a):=(zo HG5.out 0).trans rfl;have z5_0:=qy HG5.out 0;have y5_1:w5.cell? ⟨w.heap.size+1+1,1,none⟩=some (.int .i64 b):=(zo HG5.out 1).trans rfl;have z5_1:=qy HG5.out 1))
     go_roundw
     case rel=>exact⟨2,by omega,by go_num,a,u,HS,⟨HB5.out.setCell (p:=⟨w.heap.size+1+1,1,none⟩) (Nat.le_of_eq zj.zq7) (.int .i64 u)⟩,⟨zl HG5.out 1 (.int .i64 u) rfl⟩⟩
     case measure=>simp [intOf];omega
    rw [if_neg y] at hs
    obtain ⟨rfl,rfl,rfl,rfl⟩:0=r1∧0=r2∧(⟨#[]⟩:ByteArray)=r3∧v=r4:=by simpa using hs
    have dy:(v != 0)=true:=by simpa using y
    clear hs y
    obtain rfl|rfl:j=0∨j=1:=by omega
    ·simp only [Nat.zero_mul,Nat.add_zero] at p0 p1 p2 p3 p4 p5 p6 p7
     go_wp2_with (first|(go_at_call 46;(with_reducible refine HCA.out.mono ?_);rintro z w4 ⟨rfl,hb4⟩;have HB4:=zq.mk (HBA.out.trans (hb4.mono HBA.out.size));have HG4:=zq.mk ((hb4.block _ (qf HGA.out)).trans HGA.out);clear hb4;cases zj.kp HB4.out;have hl4:=qf HG4.out;have y4_0:w4.cell? ⟨w.heap.size+1+1,0,none⟩=some (.int .i64 a):=(zo HG4.out 0).trans rfl;have z4_0:=qy HG4.out 0;have y4_1:w4.cell? ⟨w.heap.size+1+1,1,none⟩=some (.int .i64 b):=(zo HG4.out 1).trans rfl;have z4_1:=qy HG4.out 1)|(go_at_call 31;(with_reducible refine(zqz.calls k _ _ _ u _ _ (LD.below HE.out.ld (zj.hr (zm HB4.out _))) HU.out).mono ?_);rintro z w5 ⟨rfl,hb5⟩;have HB5:=zq.mk ((zm HB4.out _).trans (hb5.mono (zm HB4.out _).size));have HG5:=zq.mk ((hb5.block _ (qf (zy HG4.out _))).trans (zy HG4.out _));clear hb5;cases zj.kp HB5.out;have hl5:=qf HG5.out;have y5_0:w5.cell? ⟨w.heap.size+1+1,0,none⟩=some (.int .i64 a):=(zo HG5.out 0).trans rfl;have z5_0:=qy HG5.out 0;have y5_1:w5.cell? ⟨w.heap.size+1+1,1,none⟩=some (.int .i64 b):=(zo HG5.out 1).trans rfl;have z5_1:=qy HG5.out 1))
     have HVX:=(zl (zl (zl (zj.hz (HB5.out.setCell (p:=⟨w.heap.size+1+1,0,none⟩) (Nat.le_of_eq zj.zq7) (.int .i64 u))) 0 (.int .i64 0) rfl) 1 (.int .i64 0) rfl) 2 (.string ⟨#[]⟩) rfl)
     refine bodyPost_ret (qm (rs := [.cell 4 30,.tmp 5]) rfl (by simp) (.cell (w.heap.size+1) 30 _ (0,0) _ rfl HVX huv rfl (by kernel_rfl) (.tmp .nil))) rfl ?_
     exact⟨rfl,(((zj.hr (HB5.out.setCell (p:=⟨w.heap.size+1+1,0,none⟩) (Nat.le_of_eq zj.zq7) (.int .i64 u))).setCell (p:=⟨w.heap.size+1,0,none⟩) (by simp <;> omega) _).setCell (p:=⟨w.heap.size+1,1,none⟩) (by simp <;> omega) _).setCell (p:=⟨w.heap.size+1,2,none⟩) (by simp <;> omega) _⟩
    go_wp2_with (first|(go_at_call 46;(with_reducible refine HCA.out.mono ?_);rintro z w4 ⟨rfl,hb4⟩;have HB4:=zq.mk (HBA.out.trans (hb4.mono HBA.out.size));have HG4:=zq.mk ((hb4.block _ (qf HGA.out)).trans HGA.out);clear hb4;cases zj.kp HB4.out;have hl4:=qf HG4.out;have y4_0:w4.cell? ⟨w.heap.size+1+1,0,none⟩=some (.int .i64 a):=(zo HG4.out 0).trans rfl;have z4_0:=qy HG4.out 0;have y4_1:w4.cell? ⟨w.heap.size+1+1,1,none⟩=some (.int .i64 b):=(zo HG4.out 1).trans rfl;have z4_1:=qy HG4.out 1)|(go_at_call 31;(with_reducible refine(zqz.calls k _ _ _ u _ _ (LD.below HE.out.ld (zj.hr (zm HB4.out _))) HU.out).mono ?_);rintro z w5 ⟨rfl,hb5⟩;have HB5:=zq.mk ((zm HB4.out _).trans (hb5.mono (zm HB4.out _).size));have HG5:=zq.mk ((hb5.block _ (qf (zy HG4.out _))).trans (zy HG4.out _));clear hb5;cases zj.kp HB5.out;have hl5:=qf HG5.out;have y5_0:w5.cell? ⟨w.heap.size+1+1,0,none⟩=some (.int .i64 a):=(zo HG5.out 0).trans rfl;have z5_0:=qy HG5.out 0;have y5_1:w5.cell? ⟨w.heap.size+1+1,1,none⟩=some (.int .i64 b):=(zo HG5.out 1).trans rfl;have z5_1:=qy HG5.out 1))
    have HVX:=(zl (zl (zl (zj.hz (HB5.out.setCell (p:=⟨w.heap.size+1+1,1,none⟩) (Nat.le_of_eq zj.zq7) (.int .i64 u))) 0 (.int .i64 0) rfl) 1 (.int .i64 0) rfl) 2 (.string ⟨#[]⟩) rfl)
    refine bodyPost_ret (qm (rs := [.cell 4 30,.tmp 5]) rfl (by simp) (.cell (w.heap.size+1) 30 _ (0,0) _ rfl HVX huv rfl (by kernel_rfl) (.tmp .nil))) rfl ?_
    exact⟨rfl,(((zj.hr (HB5.out.setCell (p:=⟨w.heap.size+1+1,1,none⟩) (Nat.le_of_eq zj.zq7) (.int .i64 u))).setCell (p:=⟨w.heap.size+1,0,none⟩) (by simp <;> omega) _).setCell (p:=⟨w.heap.size+1,1,none⟩) (by simp <;> omega) _).setCell (p:=⟨w.heap.size+1,2,none⟩) (by simp <;> omega) _⟩
   rw [if_neg z] at hs
   obtain ⟨rfl,rfl,rfl,rfl⟩:q1=r1∧q2=r2∧q3=r3∧q4=r4:=by simpa using hs
   have dz:(q4 != 0)=true:=by simpa using z
   clear hs z
   go_wp2_with (go_at_call 46;(with_reducible refine HCA.out.mono ?_);rintro z w4 ⟨rfl,hb4⟩;have HB4:=zq.mk (HBA.out.trans (hb4.mono HBA.out.size));have HG4:=zq.mk ((hb4.block _ (qf HGA.out)).trans HGA.out);clear hb4;cases zj.kp HB4.out;have hl4:=qf HG4.out;have y4_0:w4.cell? ⟨w.heap.size+1+1,0,none⟩=some (.int .i64 a):=(zo HG4.out 0).trans rfl;have z4_0:=qy HG4.out 0;have y4_1:w4.cell? ⟨w.heap.size+1+1,1,none⟩=some (.int .i64 b):=(zo HG4.out 1).trans rfl;have z4_1:=qy HG4.out 1)
   have HVX:=zy (zl (zl (zl (zj.hz HB4.out) 0 (.int .i64 q1) rfl) 1 (.int .i64 q2) rfl) 2 (.string q3) rfl) (.cells #[.int .i64 q1,.int .i64 q2,.string q3] 30)
   refine bodyPost_ret (qm (rs := [.cell 4 30,.tmp 5]) rfl (by simp) (.cell (w.heap.size+1) 30 _ (0,0) _ rfl HVX huv rfl (by kernel_rfl) (.tmp .nil))) rfl ?_
   exact⟨rfl,zm ((((zj.hr HB4.out).setCell (p:=⟨w.heap.size+1,0,none⟩) (by simp) _).setCell (p:=⟨w.heap.size+1,1,none⟩) (by simp) _).setCell (p:=⟨w.heap.size+1,2,none⟩) (by simp) _) _⟩
  obtain rfl:j=e.f5.length:=by omega
  have hs:=HS.out
  rw [List.drop_length,zj.lz] at hs
  obtain ⟨⟨u,v⟩,hu,hs⟩:=Option.bind_eq_some_iff.1 hs
  have HF:zq (Calls Tryd.prog 91 #[.slice (some ⟨wr.heap.size,0,none⟩) 2 2] (wr.alloc (.cells #[.int .i64 a,.int .i64 b] 3)) fun e w'=>e = .returned (.tuple #[.int .i64 u,.int .i64 v])∧qx (wr.alloc (.cells #[.int .i64 a,.int .i64 b] 3)) w'):=⟨zqm.calls (some ⟨wr.heap.size,0,none⟩) 2 [a,b] u v _ (zj.zka wr a b) (Nat.le_refl _) hu⟩
  have HT:=zq.mk hs
  have hl:=qf HG.out
  have y0:wr.cell? ⟨w.heap.size+1+1,0,none⟩=some (.int .i64 a):=(zo HG.out 0).trans rfl
  have y1:wr.cell? ⟨w.heap.size+1+1,1,none⟩=some (.int .i64 b):=(zo HG.out 1).trans rfl
  clear HS hs hu
  go_wp2_with (first|(go_at_call 91;(with_reducible refine HF.out.mono ?_);rintro z w4 ⟨rfl,hd⟩;have HB4:=zq.mk ((zm HB.out _).trans (hd.below.mono (zm HB.out _).size));clear hd;cases zj.kp HB4.out)|(go_at_call 94;(with_reducible refine(zq2.calls k _ _ r1 r2 r3 r4 _ HT.out).mono ?_);rintro z w5 ⟨rfl,hb5⟩;have HB5:=zq.mk (HB4.out.trans (hb5.mono HB4.out.size));clear hb5;cases zj.kp HB5.out))
  have HVX:=(zl (zl (zl (zj.hz HB5.out) 0 (.int .i64 r1) rfl) 1 (.int .i64 r2) rfl) 2 (.string r3) rfl)
  refine bodyPost_ret (qm (rs := [.cell 4 30,.tmp 5]) rfl (by simp) (.cell (w.heap.size+1) 30 _ (0,0) _ rfl HVX huv rfl (by kernel_rfl) (.tmp .nil))) rfl ?_
  exact⟨rfl,(((zj.hr HB5.out).setCell (p:=⟨w.heap.size+1,0,none⟩) (by simp <;> omega) _).setCell (p:=⟨w.heap.size+1,1,none⟩) (by simp <;> omega) _).setCell (p:=⟨w.heap.size+1,2,none⟩) (by simp <;> omega) _⟩
set_option maxRecDepth 100000 in
set_option maxHeartbeats 16000000 in
theorem zj.lazy_20 (row:List S30) (k:Nat) (f:S33→Option (Int × Int × ByteArray × Int)) (g:Nat) (hi:∀ (x:S33) (A8:Option Addr) (c8:Nat) (q1 q2:Int) (q3:ByteArray) (q4:Int) (W:World),zj.Env row g W→Kd.C k33 W A8 x.f5.length x.f5→x.f5.length≤c8→f x=some (q1,q2,q3,q4)→Calls Tryd.prog 46 #[.agg #[.int .i64 x.f0,.int .i64 x.f1.f0,.int .i64 x.f1.f1,.string x.f1.f2,.string x.f2,.string x.f3,.int .i64 x.f4,.slice A8 x.f5.length c8],.func (.func 47) #[] #[.pointer (some ⟨g,0,none⟩)]] W fun e w'=>e = .returned (.tuple #[.agg #[.int .i64 q1,.int .i64 q2,.string q3],.int .i64 q4])∧Below W.heap.size W w')
  (e:S33) (A7:Option Addr) (c7:Nat) (r1 r2:Int) (r3:ByteArray) (r4:Int) (w:World) (he:zj.Env row g w) (hr:Kd.C k33 w A7 e.f5.length e.f5) (hc:e.f5.length≤c7) (ho:e.f0=20) (h:zj.lz f k 2 zqs.f 0 0 0 e.f5=some (r1,r2,r3,r4)) :
  Calls Tryd.prog 65 #[.agg #[.int .i64 e.f0,.int .i64 e.f1.f0,.int .i64 e.f1.f1,.string e.f1.f2,.string e.f2,.string e.f3,.int .i64 e.f4,.slice A7 e.f5.length c7],.func (.func 47) #[] #[.pointer (some ⟨g,0,none⟩)]] w fun e w'=>e = .returned (.tuple #[.agg #[.int .i64 r1,.int .i64 r2,.string r3],.int .i64 r4])∧Below w.heap.size w w':=by
 have huv:=Tryd.underlying30
 have hm:=hr.2.1
 have d20:(e.f0 == 20)=true:=by simp [ho]
 have HE:=zq.mk he
 have HRR:=zq.mk hr
 have HII:=zq.mk hi
 have HS:=zq.mk h
 clear he hr hi ho h
 go_enter Tryd.func65,Tryd.ntmps65
 go_wp2
 go_loopw [19] (fun i wr => ∃ j:Nat,j≤e.f5.length∧i = .int .i64 j ∧ ∃ a b:Int,zq (zj.lz f k 2 zqs.f j a b (e.f5.drop j)=some (r1,r2,r3,r4))∧zq (Below (zj.w0 e A7 c7 w).heap.size (zj.w0 e A7 c7 w) wr)∧zq (wr.heap[w.heap.size+1+1]? = some (.cells #[.int .i64 a,.int .i64 b] 116 (0,0)))) (fun i _=>e.f5.length - (intOf i).toNat)
 case atStart=>exact⟨0,by omega,rfl,0,0,⟨by rw [List.drop_zero];exact HS.out⟩,⟨zm (Below.refl _ _) _⟩,⟨by have h:=zjt (zj.w0 e A7 c7 w) (.cells #[.int .i64 0,.int .i64 0] 116);rwa [zj.zq7] at h⟩⟩
 case round=>
  clear HS
  obtain ⟨j,hj,rfl,a,b,HS,HB,HG⟩:=hrel
  by_cases hlt:j<e.f5.length
  ·cases zj.kp HB.out
   have hgl:=qf HG.out
   obtain ⟨bb,oo,rfl,hcs⟩:=qq.at_ (Kd.zqe HRR.out (zj.hr HB.out)) (by omega)
   obtain ⟨A8,c8,p0,p1,p2,p3,p4,p5,p6,p7,l8,r8⟩:=hcs j hlt
   have hs:=HS.out
   rw [List.drop_eq_getElem_cons hlt,zj.lz] at hs
   by_cases j2:2≤j
   ·rw [if_pos j2] at hs;cases hs
   rw [if_neg j2] at hs
   generalize e.f5[j]=x at *
   obtain ⟨⟨q1,q2,q3,q4⟩,hq,ht⟩:=Option.bind_eq_some_iff.1 hs
   clear hs
   dsimp only at ht
   have hs:=ht
   clear ht
   have hba:=zm (Below.refl wr.heap.size wr) (.cells #[.int .i64 x.f0,.int .i64 x.f1.f0,.int .i64 x.f1.f1,.string x.f1.f2,.string x.f2,.string x.f3,.int .i64 x.f4,.slice A8 x.f5.length c8] 33)
   have HCA:=zq.mk (HII.out x A8 c8 q1 q2 q3 q4 _ ((HE.out.below (zj.hr HB.out)).below hba) (Kd.zqe r8 hba) l8 hq)
   have HBA:=zq.mk (zm HB.out (.cells #[.int .i64 x.f0,.int .i64 x.f1.f0,.int .i64 x.f1.f1,.string x.f1.f2,.string x.f2,.string x.f3,.int .i64 x.f4,.slice A8 x.f5.length c8] 33))
   have HGA:=zq.mk (zy HG.out (.cells #[.int .i64 x.f0,.int .i64 x.f1.f0,.int .i64 x.f1.f1,.string x.f1.f2,.string x.f2,.string x.f3,.int .i64 x.f4,.slice A8 x.f5.length c8] 33))
   clear hba hq r8 hcs HS
   by_cases z:q4=0
   ·rw [if_pos z] at hs
    subst z
    obtain ⟨⟨u,v⟩,hu,hs⟩:=Option.bind_eq_some_iff.1 hs
    dsimp only at hs
    have HU:=zq.mk hu
    clear hu
    by_cases y:v=0
    ·rw [if_pos y] at hs
     subst y
     obtain rfl|rfl:j=0∨j=1:=by omega
     ·simp only [Nat.zero_mul,Nat.add_zero] at p0 p1 p2 p3 p4 p5 p6 p7
      by_cases t:u=2
      ·rw [if_pos ⟨rfl,t⟩] at hs
       have dt:(u == 2)=true:=by simpa using t
       have HO:=zq.mk hs
       clear hs t
       go_wp2_with (first|(go_at_call 46;(with_reducible refine HCA.out.mono ?_);rintro z w4 ⟨rfl,hb4⟩;have HB4:=zq.mk (HBA.out.trans (hb4.mono HBA.out.size));have HG4:=zq.mk ((hb4.block _ (qf HGA.out)).trans HGA.out);clear hb4;cases zj.kp HB4.out;have hl4:=qf HG4.out;have y4_0:w4.cell? ⟨w.heap.size+1+1,0,none⟩=some (.int .i64 a):=(zo HG4.out 0).trans rfl;have z4_0:=qy HG4.out 0;have y4_1:w4.cell? ⟨w.heap.size+1+1,1,none⟩=some (.int .i64 b):=(zo HG4.out 1).trans rfl;have z4_1:=qy HG4.out 1)|(go_at_call 31;(with_reducible refine(zqz.calls k _ _ _ u _ _ (LD.below HE.out.ld (zj.hr (zm HB4.out _))) HU.out).mono ?_);rintro z w5 ⟨rfl,hb5⟩;have HB5:=zq.mk ((zm HB4.out _).trans (hb5.mono (zm HB4.out _).size));have HG5:=zq.mk ((hb5.block _ (qf (zy HG4.out _))).trans (zy HG4.out _));clear hb5;cases zj.kp HB5.out;have hl5:=qf HG5.out;have y5_0:w5.cell? ⟨w.heap.size+1+1,0,none⟩=some (.int .i64 a):=(zo HG5.out 0).trans rfl;have z5_0:=qy HG5.out 0;have y5_1:w5.cell? ⟨w.heap.size+1+1,1,none⟩=some (.int .i64 b):=(zo HG5.out 1).trans rfl;have z5_1:=qy HG5.out 1)|(go_at_call 93;(with_reducible refine(zqn.calls k _ r1 r2 r3 r4 _ HO.out).mono ?_);rintro z w6 ⟨rfl,hb6⟩;have HB6:=zq.mk ((HB5.out.setCell (p:=⟨w.heap.size+1+1,0,none⟩) (Nat.le_of_eq zj.zq7) _).trans (hb6.mono (HB5.out.setCell (p:=⟨w.heap.size+1+1,0,none⟩) (Nat.le_of_eq zj.zq7) _).size));clear hb6;cases zj.kp HB6.out))
       have HVX:=(zl (zl (zl (zj.hz HB6.out) 0 (.int .i64 r1) rfl) 1 (.int .i64 r2) rfl) 2 (.string r3) rfl)
       refine bodyPost_ret (qm (rs := [.cell 4 30,.tmp 5]) rfl (by simp) (.cell (w.heap.size+1) 30 _ (0,0) _ rfl HVX huv rfl (by kernel_rfl) (.tmp .nil))) rfl ?_
       exact⟨rfl,(((zj.hr HB6.out).setCell (p:=⟨w.heap.size+1,0,none⟩) (by simp <;> omega) _).setCell (p:=⟨w.heap.size+1,1,none⟩) (by simp <;> omega) _).setCell (p:=⟨w.heap.size+1,2,none⟩) (by simp <;> omega) _⟩
      rw [if_neg (fun h_=>t h_.2),if_pos rfl,if_pos rfl] at hs
      have dt:(u == 2)=false:=by simpa using t
      have HS:=zq.mk hs
      clear hs t
      go_wp2_with (first|(go_at_call 46;(with_reducible refine HCA.out.mono ?_);rintro z w4 ⟨rfl,hb4⟩;have HB4:=zq.mk (HBA.out.trans (hb4.mono HBA.out.size));have HG4:=zq.mk ((hb4.block _ (qf HGA.out)).trans HGA.out);clear hb4;cases zj.kp HB4.out;have hl4:=qf HG4.out;have y4_0:w4.cell? ⟨w.heap.size+1+1,0,none⟩=some (.int .i64 a):=(zo HG4.out 0).trans rfl;have z4_0:=qy HG4.out 0;have y4_1:w4.cell? ⟨w.heap.size+1+1,1,none⟩=some (.int .i64 b):=(zo HG4.out 1).trans rfl;have z4_1:=qy HG4.out 1)|(go_at_call 31;(with_reducible refine(zqz.calls k _ _ _ u _ _ (LD.below HE.out.ld (zj.hr (zm HB4.out _))) HU.out).mono ?_);rintro z w5 ⟨rfl,hb5⟩;have HB5:=zq.mk ((zm HB4.out _).trans (hb5.mono (zm HB4.out _).size));have HG5:=zq.mk ((hb5.block _ (qf (zy HG4.out _))).trans (zy HG4.out _));clear hb5;cases zj.kp HB5.out;have hl5:=qf HG5.out;have y5_0:w5.cell? ⟨w.heap.size+1+1,0,none⟩=some (.int .i64 a):=(zo HG5.out 0).trans rfl;have z5_0:=qy HG5.out 0;have y5_1:w5.cell? ⟨w.heap.size+1+1,1,none⟩=some (.int .i64 b):=(zo HG5.out 1).trans rfl;have z5_1:=qy HG5.out 1))
      go_roundw
      case rel=>exact⟨1,by omega,by go_num,u,b,HS,⟨HB5.out.setCell (p:=⟨w.heap.size+1+1,0,none⟩) (Nat.le_of_eq zj.zq7) (.int .i64 u)⟩,⟨zl HG5.out 0 (.int .i64 u) rfl⟩⟩
      case measure=>simp [intOf];omega
     rw [if_neg (fun h_=>by cases h_.1),if_neg (by decide),if_neg (by decide)] at hs
     have HS:=zq.mk hs
     clear hs
     go_wp2_with (first|(go_at_call 46;(with_reducible refine HCA.out.mono ?_);rintro z w4 ⟨rfl,hb4⟩;have HB4:=zq.mk (HBA.out.trans (hb4.mono HBA.out.size));have HG4:=zq.mk ((hb4.block _ (qf HGA.out)).trans HGA.out);clear hb4;cases zj.kp HB4.out;have hl4:=qf HG4.out;have y4_0:w4.cell? ⟨w.heap.size+1+1,0,none⟩=some (.int .i64 a):=(zo HG4.out 0).trans rfl;have z4_0:=qy HG4.out 0;have y4_1:w4.cell? ⟨w.heap.size+1+1,1,none⟩=some (.int .i64 b):=(zo HG4.out 1).trans rfl;have z4_1:=qy HG4.out 1)|(go_at_call 31;(with_reducible refine(zqz.calls k _ _ _ u _ _ (LD.below HE.out.ld (zj.hr (zm HB4.out _))) HU.out).mono ?_);rintro z w5 ⟨rfl,hb5⟩;have HB5:=zq.mk ((zm HB4.out _).trans (hb5.mono (zm HB4.out _).size));have HG5:=zq.mk ((hb5.block _ (qf (zy HG4.out _))).trans (zy HG4.out _));clear hb5;cases zj.kp HB5.out;have hl5:=qf HG5.out;have y5_0:w5.cell? ⟨w.heap.size+1+1,0,none⟩=some (.int .i64 a):=(zo HG5.out 0).trans rfl;have z5_0:=qy HG5.out 0;have y5_1:w5.cell? ⟨w.heap.size+1+1,1,none⟩=some (.int .i64 b):=(zo HG5.out 1).trans rfl;have z5_1:=qy HG5.out 1))
     go_roundw
     case rel=>exact⟨2,by omega,by go_num,a,u,HS,⟨HB5.out.setCell (p:=⟨w.heap.size+1+1,1,none⟩) (Nat.le_of_eq zj.zq7) (.int .i64 u)⟩,⟨zl HG5.out 1 (.int .i64 u) rfl⟩⟩
     case measure=>simp [intOf];omega
    rw [if_neg y] at hs
    obtain ⟨rfl,rfl,rfl,rfl⟩:0=r1∧0=r2∧(⟨#[]⟩:ByteArray)=r3∧v=r4:=by simpa using hs
    have dy:(v != 0)=true:=by simpa using y
    clear hs y
    obtain rfl|rfl:j=0∨j=1:=by omega
    ·simp only [Nat.zero_mul,Nat.add_zero] at p0 p1 p2 p3 p4 p5 p6 p7
     go_wp2_with (first|(go_at_call 46;(with_reducible refine HCA.out.mono ?_);rintro z w4 ⟨rfl,hb4⟩;have HB4:=zq.mk (HBA.out.trans (hb4.mono HBA.out.size));have HG4:=zq.mk ((hb4.block _ (qf HGA.out)).trans HGA.out);clear hb4;cases zj.kp HB4.out;have hl4:=qf HG4.out;have y4_0:w4.cell? ⟨w.heap.size+1+1,0,none⟩=some (.int .i64 a):=(zo HG4.out 0).trans rfl;have z4_0:=qy HG4.out 0;have y4_1:w4.cell? ⟨w.heap.size+1+1,1,none⟩=some (.int .i64 b):=(zo HG4.out 1).trans rfl;have z4_1:=qy HG4.out 1)|(go_at_call 31;(with_reducible refine(zqz.calls k _ _ _ u _ _ (LD.below HE.out.ld (zj.hr (zm HB4.out _))) HU.out).mono ?_);rintro z w5 ⟨rfl,hb5⟩;have HB5:=zq.mk ((zm HB4.out _).trans (hb5.mono (zm HB4.out _).size));have HG5:=zq.mk ((hb5.block _ (qf (zy HG4.out _))).trans (zy HG4.out _));clear hb5;cases zj.kp HB5.out;have hl5:=qf HG5.out;have y5_0:w5.cell? ⟨w.heap.size+1+1,0,none⟩=some (.int .i64 a):=(zo HG5.out 0).trans rfl;have z5_0:=qy HG5.out 0;have y5_1:w5.cell? ⟨w.heap.size+1+1,1,none⟩=some (.int .i64 b):=(zo HG5.out 1).trans rfl;have z5_1:=qy HG5.out 1))
     have HVX:=(zl (zl (zl (zj.hz (HB5.out.setCell (p:=⟨w.heap.size+1+1,0,none⟩) (Nat.le_of_eq zj.zq7) (.int .i64 u))) 0 (.int .i64 0) rfl) 1 (.int .i64 0) rfl) 2 (.string ⟨#[]⟩) rfl)
     refine bodyPost_ret (qm (rs := [.cell 4 30,.tmp 5]) rfl (by simp) (.cell (w.heap.size+1) 30 _ (0,0) _ rfl HVX huv rfl (by kernel_rfl) (.tmp .nil))) rfl ?_
     exact⟨rfl,(((zj.hr (HB5.out.setCell (p:=⟨w.heap.size+1+1,0,none⟩) (Nat.le_of_eq zj.zq7) (.int .i64 u))).setCell (p:=⟨w.heap.size+1,0,none⟩) (by simp <;> omega) _).setCell (p:=⟨w.heap.size+1,1,none⟩) (by simp <;> omega) _).setCell (p:=⟨w.heap.size+1,2,none⟩) (by simp <;> omega) _⟩
    go_wp2_with (first|(go_at_call 46;(with_reducible refine HCA.out.mono ?_);rintro z w4 ⟨rfl,hb4⟩;have HB4:=zq.mk (HBA.out.trans (hb4.mono HBA.out.size));have HG4:=zq.mk ((hb4.block _ (qf HGA.out)).trans HGA.out);clear hb4;cases zj.kp HB4.out;have hl4:=qf HG4.out;have y4_0:w4.cell? ⟨w.heap.size+1+1,0,none⟩=some (.int .i64 a):=(zo HG4.out 0).trans rfl;have z4_0:=qy HG4.out 0;have y4_1:w4.cell? ⟨w.heap.size+1+1,1,none⟩=some (.int .i64 b):=(zo HG4.out 1).trans rfl;have z4_1:=qy HG4.out 1)|(go_at_call 31;(with_reducible refine(zqz.calls k _ _ _ u _ _ (LD.below HE.out.ld (zj.hr (zm HB4.out _))) HU.out).mono ?_);rintro z w5 ⟨rfl,hb5⟩;have HB5:=zq.mk ((zm HB4.out _).trans (hb5.mono (zm HB4.out _).size));have HG5:=zq.mk ((hb5.block _ (qf (zy HG4.out _))).trans (zy HG4.out _));clear hb5;cases zj.kp HB5.out;have hl5:=qf HG5.out;have y5_0:w5.cell? ⟨w.heap.size+1+1,0,none⟩=some (.int .i64 a):=(zo HG5.out 0).trans rfl;have z5_0:=qy HG5.out 0;have y5_1:w5.cell? ⟨w.heap.size+1+1,1,none⟩=some (.int .i64 b):=(zo HG5.out 1).trans rfl;have z5_1:=qy HG5.out 1))
    have HVX:=(zl (zl (zl (zj.hz (HB5.out.setCell (p:=⟨w.heap.size+1+1,1,none⟩) (Nat.le_of_eq zj.zq7) (.int .i64 u))) 0 (.int .i64 0) rfl) 1 (.int .i64 0) rfl) 2 (.string ⟨#[]⟩) rfl)
    refine bodyPost_ret (qm (rs := [.cell 4 30,.tmp 5]) rfl (by simp) (.cell (w.heap.size+1) 30 _ (0,0) _ rfl HVX huv rfl (by kernel_rfl) (.tmp .nil))) rfl ?_
    exact⟨rfl,(((zj.hr (HB5.out.setCell (p:=⟨w.heap.size+1+1,1,none⟩) (Nat.le_of_eq zj.zq7) (.int .i64 u))).setCell (p:=⟨w.heap.size+1,0,none⟩) (by simp <;> omega) _).setCell (p:=⟨w.heap.size+1,1,none⟩) (by simp <;> omega) _).setCell (p:=⟨w.heap.size+1,2,none⟩) (by simp <;> omega) _⟩
   rw [if_neg z] at hs
   obtain ⟨rfl,rfl,rfl,rfl⟩:q1=r1∧q2=r2∧q3=r3∧q4=r4:=by simpa using hs
   have dz:(q4 != 0)=true:=by simpa using z
   clear hs z
   go_wp2_with (go_at_call 46;(with_reducible refine HCA.out.mono ?_);rintro z w4 ⟨rfl,hb4⟩;have HB4:=zq.mk (HBA.out.trans (hb4.mono HBA.out.size));have HG4:=zq.mk ((hb4.block _ (qf HGA.out)).trans HGA.out);clear hb4;cases zj.kp HB4.out;have hl4:=qf HG4.out;have y4_0:w4.cell? ⟨w.heap.size+1+1,0,none⟩=some (.int .i64 a):=(zo HG4.out 0).trans rfl;have z4_0:=qy HG4.out 0;have y4_1:w4.cell? ⟨w.heap.size+1+1,1,none⟩=some (.int .i64 b):=(zo HG4.out 1).trans rfl;have z4_1:=qy HG4.out 1)
   have HVX:=zy (zl (zl (zl (zj.hz HB4.out) 0 (.int .i64 q1) rfl) 1 (.int .i64 q2) rfl) 2 (.string q3) rfl) (.cells #[.int .i64 q1,.int .i64 q2,.string q3] 30)
   refine bodyPost_ret (qm (rs := [.cell 4 30,.tmp 5]) rfl (by simp) (.cell (w.heap.size+1) 30 _ (0,0) _ rfl HVX huv rfl (by kernel_rfl) (.tmp .nil))) rfl ?_
   exact⟨rfl,zm ((((zj.hr HB4.out).setCell (p:=⟨w.heap.size+1,0,none⟩) (by simp) _).setCell (p:=⟨w.heap.size+1,1,none⟩) (by simp) _).setCell (p:=⟨w.heap.size+1,2,none⟩) (by simp) _) _⟩
  obtain rfl:j=e.f5.length:=by omega
  have hs:=HS.out
  rw [List.drop_length,zj.lz] at hs
  obtain ⟨⟨u,v⟩,hu,hs⟩:=Option.bind_eq_some_iff.1 hs
  have HF:zq (Calls Tryd.prog 92 #[.slice (some ⟨wr.heap.size,0,none⟩) 2 2] (wr.alloc (.cells #[.int .i64 a,.int .i64 b] 3)) fun e w'=>e = .returned (.tuple #[.int .i64 u,.int .i64 v])∧qx (wr.alloc (.cells #[.int .i64 a,.int .i64 b] 3)) w'):=⟨zqs.calls (some ⟨wr.heap.size,0,none⟩) 2 [a,b] u v _ (zj.zka wr a b) (Nat.le_refl _) hu⟩
  have HT:=zq.mk hs
  have hl:=qf HG.out
  have y0:wr.cell? ⟨w.heap.size+1+1,0,none⟩=some (.int .i64 a):=(zo HG.out 0).trans rfl
  have y1:wr.cell? ⟨w.heap.size+1+1,1,none⟩=some (.int .i64 b):=(zo HG.out 1).trans rfl
  clear HS hs hu
  go_wp2_with (first|(go_at_call 92;(with_reducible refine HF.out.mono ?_);rintro z w4 ⟨rfl,hd⟩;have HB4:=zq.mk ((zm HB.out _).trans (hd.below.mono (zm HB.out _).size));clear hd;cases zj.kp HB4.out)|(go_at_call 94;(with_reducible refine(zq2.calls k _ _ r1 r2 r3 r4 _ HT.out).mono ?_);rintro z w5 ⟨rfl,hb5⟩;have HB5:=zq.mk (HB4.out.trans (hb5.mono HB4.out.size));clear hb5;cases zj.kp HB5.out))
  have HVX:=(zl (zl (zl (zj.hz HB5.out) 0 (.int .i64 r1) rfl) 1 (.int .i64 r2) rfl) 2 (.string r3) rfl)
  refine bodyPost_ret (qm (rs := [.cell 4 30,.tmp 5]) rfl (by simp) (.cell (w.heap.size+1) 30 _ (0,0) _ rfl HVX huv rfl (by kernel_rfl) (.tmp .nil))) rfl ?_
  exact⟨rfl,(((zj.hr HB5.out).setCell (p:=⟨w.heap.size+1,0,none⟩) (by simp <;> omega) _).setCell (p:=⟨w.heap.size+1,1,none⟩) (by simp <;> omega) _).setCell (p:=⟨w.heap.size+1,2,none⟩) (by simp <;> omega) _⟩
set_option maxRecDepth 100000 in
set_option maxHeartbeats 16000000 in
theorem zj.asked (row:List S30) (k:Nat) (g:Nat):∀ (n:Nat) (e:S33) (A7:Option Addr) (c7:Nat) (r1 r2:Int) (r3:ByteArray) (r4:Int) (w:World),zj.Env row g w→Kd.C k33 w A7 e.f5.length e.f5→e.f5.length≤c7→zj.ev row k n e=some (r1,r2,r3,r4) →
  Calls Tryd.prog 46 #[.agg #[.int .i64 e.f0,.int .i64 e.f1.f0,.int .i64 e.f1.f1,.string e.f1.f2,.string e.f2,.string e.f3,.int .i64 e.f4,.slice A7 e.f5.length c7],.func (.func 47) #[] #[.pointer (some ⟨g,0,none⟩)]] w fun e w'=>e = .returned (.tuple #[.agg #[.int .i64 r1,.int .i64 r2,.string r3],.int .i64 r4])∧Below w.heap.size w w':=by
 intro n
 induction n with
 | zero=>
  intro e A7 c7 r1 r2 r3 r4 w he hr hc h
  cases h
 | succ n ih=>
 intro e A7 c7 r1 r2 r3 r4 w he hr hc h
 have huv:=Tryd.underlying30
 have hm:=hr.2.1
 have HE:=zq.mk he
 have HRR:=zq.mk hr
 have HII:=zq.mk ih
 have hew:=fun (W:World) (hb:Below (zj.w0 e A7 c7 w).heap.size (zj.w0 e A7 c7 w) W)=>he.below (zj.hr hb)
 have hrw:=fun (W:World) (hb:Below (zj.w0 e A7 c7 w).heap.size (zj.w0 e A7 c7 w) W)=>Kd.zqe hr (zj.hr hb)
 have HEW:=zq.mk hew
 have HRW:=zq.mk hrw
 clear ih hew hrw
 rw [zj.ev] at h
 by_cases h3:e.f0=3
 ·rw [if_pos h3] at h
  by_cases hi:0≤e.f4∧e.f4<row.length
  rotate_left
  ·rw [if_neg hi] at h;cases h
  rw [if_pos hi] at h
  obtain ⟨rfl,rfl,rfl,rfl⟩:(zqh row e.f4).f0=r1∧(zqh row e.f4).f1=r2∧(zqh row e.f4).f2=r3∧0=r4:=by simpa using h
  have HY:=zq.mk (zj.of_yes row e A7 c7 g (zj.w0 e A7 c7 w) (HEW.out _ (Below.refl _ _)) h3 hi.1 hi.2)
  clear h h3 hi he hr
  generalize zqh row e.f4=x at *
  go_enter Tryd.func46,Tryd.ntmps46
  go_wp2_with (go_at_call 47;(with_reducible refine(za.lift (W0:=zj.w0 e A7 c7 w) (Below.refl _ _) (HY.out)).mono ?_);rintro z w1 ⟨rfl,hb1⟩;have HB1:=zq.mk hb1;cases zj.kp hb1;clear hb1)
  have HVX:=zy (zl (zl (zl (zj.hz HB1.out) 0 (.int .i64 x.f0) rfl) 1 (.int .i64 x.f1) rfl) 2 (.string x.f2) rfl) (.cells #[.int .i64 x.f0,.int .i64 x.f1,.string x.f2] 30)
  refine bodyPost_ret (qm (rs := [.cell 4 30,.tmp 5]) rfl (by simp) (.cell (w.heap.size+1) 30 _ (0,0) _ rfl HVX huv rfl (by kernel_rfl) (.tmp .nil))) rfl ?_
  exact⟨rfl,zm ((((zj.hr HB1.out).setCell (p:=⟨w.heap.size+1,0,none⟩) (by simp) _).setCell (p:=⟨w.heap.size+1,1,none⟩) (by simp) _).setCell (p:=⟨w.heap.size+1,2,none⟩) (by simp) _) _⟩
 rw [if_neg h3] at h
 have HNO:=zq.mk (fun W=>zj.of_no e A7 c7 g W h3)
 by_cases h1:e.f0=1
 ·rw [if_pos h1] at h
  obtain ⟨rfl,rfl,rfl,rfl⟩:e.f1.f0=r1∧e.f1.f1=r2∧e.f1.f2=r3∧0=r4:=by simpa using h
  have d1:(e.f0 == 1)=true:=by simpa using h1
  clear h h3 h1 he hr
  go_enter Tryd.func46,Tryd.ntmps46
  go_wp2_with (go_at_call 47;(with_reducible refine(za.lift (W0:=zj.w0 e A7 c7 w) (Below.refl _ _) (HNO.out _)).mono ?_);rintro z w1 ⟨rfl,hb1⟩;have HB1:=zq.mk hb1;cases zj.kp hb1;clear hb1)
  have HVX:=zy (zl (zl (zl (zj.hz HB1.out) 0 (.int .i64 e.f1.f0) rfl) 1 (.int .i64 e.f1.f1) rfl) 2 (.string e.f1.f2) rfl) (.cells #[.int .i64 0,.int .i64 0,.string ⟨#[]⟩] 30)
  refine bodyPost_ret (qm (rs := [.cell 4 30,.tmp 5]) rfl (by simp) (.cell (w.heap.size+1) 30 _ (0,0) _ rfl HVX huv rfl (by kernel_rfl) (.tmp .nil))) rfl ?_
  exact⟨rfl,zm ((((zj.hr HB1.out).setCell (p:=⟨w.heap.size+1,0,none⟩) (by simp) _).setCell (p:=⟨w.heap.size+1,1,none⟩) (by simp) _).setCell (p:=⟨w.heap.size+1,2,none⟩) (by simp) _) _⟩
 rw [if_neg h1] at h
 have d1:(e.f0 == 1)=false:=by simpa using h1
 by_cases h19:e.f0=19
 ·rw [if_pos h19] at h
  have d2:(e.f0 == 19)=true:=by simpa using h19
  have HLZ:=zq.mk (fun (W:World) hb=>zj.lazy_19 row k _ g HII.out e A7 c7 r1 r2 r3 r4 W (HEW.out W hb) (HRW.out W hb) hc h19 h)
  clear h h3 h1 h19 he hr
  go_enter Tryd.func46,Tryd.ntmps46
  go_wp2_with (first|(go_at_call 47;(with_reducible refine(za.lift (W0:=zj.w0 e A7 c7 w) (Below.refl _ _) (HNO.out _)).mono ?_);rintro z w1 ⟨rfl,hb1⟩;have HB1:=zq.mk hb1;cases zj.kp hb1;clear hb1)|(go_at_call 65;(with_reducible refine(HLZ.out _ (zm HB1.out _)).mono ?_);rintro z w2 ⟨rfl,hb2⟩;have HB2:=zq.mk ((zm HB1.out _).trans (hb2.mono (zm HB1.out _).size));cases zj.kp HB2.out;clear hb2))
  have HVX:=(zl (zl (zl (zj.hz (HB2.out)) 0 (.int .i64 r1) rfl) 1 (.int .i64 r2) rfl) 2 (.string r3) rfl)
  refine bodyPost_ret (qm (rs := [.cell 4 30,.tmp 5]) rfl (by simp) (.cell (w.heap.size+1) 30 _ (0,0) _ rfl HVX huv rfl (by kernel_rfl) (.tmp .nil))) rfl ?_
  exact⟨rfl,(((zj.hr (HB2.out)).setCell (p:=⟨w.heap.size+1,0,none⟩) (by simp <;> omega) _).setCell (p:=⟨w.heap.size+1,1,none⟩) (by simp <;> omega) _).setCell (p:=⟨w.heap.size+1,2,none⟩) (by simp <;> omega) _⟩
 rw [if_neg h19] at h
 have d2:(e.f0 == 19)=false:=by simpa using h19
 by_cases h20:e.f0=20
 ·rw [if_pos h20] at h
  have d3:(e.f0 == 20)=true:=by simpa using h20
  have HLZ:=zq.mk (fun (W:World) hb=>zj.lazy_20 row k _ g HII.out e A7 c7 r1 r2 r3 r4 W (HEW.out W hb) (HRW.out W hb) hc h20 h)
  clear h h3 h1 h19 h20 he hr
  go_enter Tryd.func46,Tryd.ntmps46
  go_wp2_with (first|(go_at_call 47;(with_reducible refine(za.lift (W0:=zj.w0 e A7 c7 w) (Below.refl _ _) (HNO.out _)).mono ?_);rintro z w1 ⟨rfl,hb1⟩;have HB1:=zq.mk hb1;cases zj.kp hb1;clear hb1)|(go_at_call 65;(with_reducible refine(HLZ.out _ (zm HB1.out _)).mono ?_);rintro z w2 ⟨rfl,hb2⟩;have HB2:=zq.mk ((zm HB1.out _).trans (hb2.mono (zm HB1.out _).size));cases zj.kp HB2.out;clear hb2))
  have HVX:=(zl (zl (zl (zj.hz (HB2.out)) 0 (.int .i64 r1) rfl) 1 (.int .i64 r2) rfl) 2 (.string r3) rfl)
  refine bodyPost_ret (qm (rs := [.cell 4 30,.tmp 5]) rfl (by simp) (.cell (w.heap.size+1) 30 _ (0,0) _ rfl HVX huv rfl (by kernel_rfl) (.tmp .nil))) rfl ?_
  exact⟨rfl,(((zj.hr (HB2.out)).setCell (p:=⟨w.heap.size+1,0,none⟩) (by simp <;> omega) _).setCell (p:=⟨w.heap.size+1,1,none⟩) (by simp <;> omega) _).setCell (p:=⟨w.heap.size+1,2,none⟩) (by simp <;> omega) _⟩
 rw [if_neg h20] at h
 have d3:(e.f0 == 20)=false:=by simpa using h20
 have HS:=zq.mk h
 clear h h3 h1 h19 h20 he hr
 go_enter Tryd.func46,Tryd.ntmps46
 go_wp2_with (go_at_call 47;(with_reducible refine(za.lift (W0:=zj.w0 e A7 c7 w) (Below.refl _ _) (HNO.out _)).mono ?_);rintro z w1 ⟨rfl,hb1⟩;have HB1:=zq.mk hb1;cases zj.kp hb1;clear hb1)
 go_loopw [41] (fun i wr => ∃ j:Nat,j≤e.f5.length∧i = .int .i64 j ∧ ∃ a b:S30,zq (zj.rest (zj.ev row k n) (zh.of k e.f0) j a b (e.f5.drop j)=some (r1,r2,r3,r4))∧zq (Below (zj.w0 e A7 c7 w).heap.size (zj.w0 e A7 c7 w) wr)∧zq (wr.heap[w1.heap.size+1]? = some (.cells #[.int .i64 a.f0,.int .i64 a.f1,.string a.f2,.int .i64 b.f0,.int .i64 b.f1,.string b.f2] 94 (0,0)))) (fun i _=>e.f5.length - (intOf i).toNat)
 case atStart=>exact⟨0,by omega,rfl,⟨0,0,⟨#[]⟩⟩,⟨0,0,⟨#[]⟩⟩,⟨by rw [List.drop_zero];exact HS.out⟩,⟨zm (zm HB1.out _) _⟩,⟨zj.new1 w1 _ _⟩⟩
 case round=>
  clear HS
  obtain ⟨j,hj,rfl,a,b,HS,HB,HG⟩:=hrel
  by_cases hlt:j<e.f5.length
  ·cases zj.kp HB.out
   have hgl:=qf HG.out
   obtain ⟨bb,oo,rfl,hcs⟩:=qq.at_ (Kd.zqe HRR.out (zj.hr HB.out)) (by omega)
   obtain ⟨A8,c8,p0,p1,p2,p3,p4,p5,p6,p7,l8,r8⟩:=hcs j hlt
   have hs:=HS.out
   rw [List.drop_eq_getElem_cons hlt,zj.rest] at hs
   by_cases j2:2≤j
   ·rw [if_pos j2] at hs;cases hs
   rw [if_neg j2] at hs
   generalize e.f5[j]=x at *
   obtain ⟨⟨q1,q2,q3,q4⟩,hq,ht⟩:=Option.bind_eq_some_iff.1 hs
   clear hs
   dsimp only at ht
   have hs:=ht
   clear ht
   have hba:=zm (Below.refl wr.heap.size wr) (.cells #[.int .i64 x.f0,.int .i64 x.f1.f0,.int .i64 x.f1.f1,.string x.f1.f2,.string x.f2,.string x.f3,.int .i64 x.f4,.slice A8 x.f5.length c8] 33)
   have HCA:=zq.mk (HII.out x A8 c8 q1 q2 q3 q4 _ ((HE.out.below (zj.hr HB.out)).below hba) (Kd.zqe r8 hba) l8 hq)
   have HBA:=zq.mk (zm HB.out (.cells #[.int .i64 x.f0,.int .i64 x.f1.f0,.int .i64 x.f1.f1,.string x.f1.f2,.string x.f2,.string x.f3,.int .i64 x.f4,.slice A8 x.f5.length c8] 33))
   have HGA:=zq.mk (zy HG.out (.cells #[.int .i64 x.f0,.int .i64 x.f1.f0,.int .i64 x.f1.f1,.string x.f1.f2,.string x.f2,.string x.f3,.int .i64 x.f4,.slice A8 x.f5.length c8] 33))
   clear hba hq r8 hcs HS
   by_cases z:q4=0
   ·rw [if_pos z] at hs
    subst z
    obtain rfl|rfl:j=0∨j=1:=by omega
    ·simp only [Nat.zero_mul,Nat.add_zero] at p0 p1 p2 p3 p4 p5 p6 p7
     rw [if_pos rfl,if_pos rfl] at hs
     have HS:=zq.mk hs
     clear hs
     go_wp2_with (go_at_call 46;(with_reducible refine HCA.out.mono ?_);rintro z w4 ⟨rfl,hb4⟩;have HB4:=zq.mk (HBA.out.trans (hb4.mono HBA.out.size));have HG4:=zq.mk ((hb4.block _ (qf HGA.out)).trans HGA.out);clear hb4;cases zj.kp HB4.out;have hl4:=qf HG4.out;have y4_0:w4.cell? ⟨w1.heap.size+1,0,none⟩=some (.int .i64 a.f0):=(zo HG4.out 0).trans rfl;have z4_0:=qy HG4.out 0;have y4_1:w4.cell? ⟨w1.heap.size+1,1,none⟩=some (.int .i64 a.f1):=(zo HG4.out 1).trans rfl;have z4_1:=qy HG4.out 1;have y4_2:w4.cell? ⟨w1.heap.size+1,2,none⟩=some (.string a.f2):=(zo HG4.out 2).trans rfl;have z4_2:=qy HG4.out 2;have y4_3:w4.cell? ⟨w1.heap.size+1,3,none⟩=some (.int .i64 b.f0):=(zo HG4.out 3).trans rfl;have z4_3:=qy HG4.out 3;have y4_4:w4.cell? ⟨w1.heap.size+1,4,none⟩=some (.int .i64 b.f1):=(zo HG4.out 4).trans rfl;have z4_4:=qy HG4.out 4;have y4_5:w4.cell? ⟨w1.heap.size+1,5,none⟩=some (.string b.f2):=(zo HG4.out 5).trans rfl;have z4_5:=qy HG4.out 5)
     go_roundw
     case rel=>exact⟨1,by omega,by go_num,⟨q1,q2,q3⟩,b,HS,⟨zm (((HB4.out.setCell (p:=⟨w1.heap.size+1,0,none⟩) (Nat.le_succ_of_le HB1.out.size) _).setCell (p:=⟨w1.heap.size+1,1,none⟩) (Nat.le_succ_of_le HB1.out.size) _).setCell (p:=⟨w1.heap.size+1,2,none⟩) (Nat.le_succ_of_le HB1.out.size) _) _⟩,⟨zy (zl (zl (zl HG4.out 0 (.int .i64 q1) rfl) 1 (.int .i64 q2) rfl) 2 (.string q3) rfl) _⟩⟩
     case measure=>simp [intOf];omega
    rw [if_neg (by decide),if_neg (by decide)] at hs
    have HS:=zq.mk hs
    clear hs
    go_wp2_with (go_at_call 46;(with_reducible refine HCA.out.mono ?_);rintro z w4 ⟨rfl,hb4⟩;have HB4:=zq.mk (HBA.out.trans (hb4.mono HBA.out.size));have HG4:=zq.mk ((hb4.block _ (qf HGA.out)).trans HGA.out);clear hb4;cases zj.kp HB4.out;have hl4:=qf HG4.out;have y4_0:w4.cell? ⟨w1.heap.size+1,0,none⟩=some (.int .i64 a.f0):=(zo HG4.out 0).trans rfl;have z4_0:=qy HG4.out 0;have y4_1:w4.cell? ⟨w1.heap.size+1,1,none⟩=some (.int .i64 a.f1):=(zo HG4.out 1).trans rfl;have z4_1:=qy HG4.out 1;have y4_2:w4.cell? ⟨w1.heap.size+1,2,none⟩=some (.string a.f2):=(zo HG4.out 2).trans rfl;have z4_2:=qy HG4.out 2;have y4_3:w4.cell? ⟨w1.heap.size+1,3,none⟩=some (.int .i64 b.f0):=(zo HG4.out 3).trans rfl;have z4_3:=qy HG4.out 3;have y4_4:w4.cell? ⟨w1.heap.size+1,4,none⟩=some (.int .i64 b.f1):=(zo HG4.out 4).trans rfl;have z4_4:=qy HG4.out 4;have y4_5:w4.cell? ⟨w1.heap.size+1,5,none⟩=some (.string b.f2):=(zo HG4.out 5).trans rfl;have z4_5:=qy HG4.out 5)
    go_roundw
    case rel=>exact⟨2,by omega,by go_num,a,⟨q1,q2,q3⟩,HS,⟨zm (((HB4.out.setCell (p:=⟨w1.heap.size+1,3,none⟩) (Nat.le_succ_of_le HB1.out.size) _).setCell (p:=⟨w1.heap.size+1,4,none⟩) (Nat.le_succ_of_le HB1.out.size) _).setCell (p:=⟨w1.heap.size+1,5,none⟩) (Nat.le_succ_of_le HB1.out.size) _) _⟩,⟨zy (zl (zl (zl HG4.out 3 (.int .i64 q1) rfl) 4 (.int .i64 q2) rfl) 5 (.string q3) rfl) _⟩⟩
    case measure=>simp [intOf];omega
   rw [if_neg z] at hs
   obtain ⟨rfl,rfl,rfl,rfl⟩:q1=r1∧q2=r2∧q3=r3∧q4=r4:=by simpa using hs
   have dz:(q4 != 0)=true:=by simpa using z
   clear hs z
   go_wp2_with (go_at_call 46;(with_reducible refine HCA.out.mono ?_);rintro z w4 ⟨rfl,hb4⟩;have HB4:=zq.mk (HBA.out.trans (hb4.mono HBA.out.size));have HG4:=zq.mk ((hb4.block _ (qf HGA.out)).trans HGA.out);clear hb4;cases zj.kp HB4.out;have hl4:=qf HG4.out;have y4_0:w4.cell? ⟨w1.heap.size+1,0,none⟩=some (.int .i64 a.f0):=(zo HG4.out 0).trans rfl;have z4_0:=qy HG4.out 0;have y4_1:w4.cell? ⟨w1.heap.size+1,1,none⟩=some (.int .i64 a.f1):=(zo HG4.out 1).trans rfl;have z4_1:=qy HG4.out 1;have y4_2:w4.cell? ⟨w1.heap.size+1,2,none⟩=some (.string a.f2):=(zo HG4.out 2).trans rfl;have z4_2:=qy HG4.out 2;have y4_3:w4.cell? ⟨w1.heap.size+1,3,none⟩=some (.int .i64 b.f0):=(zo HG4.out 3).trans rfl;have z4_3:=qy HG4.out 3;have y4_4:w4.cell? ⟨w1.heap.size+1,4,none⟩=some (.int .i64 b.f1):=(zo HG4.out 4).trans rfl;have z4_4:=qy HG4.out 4;have y4_5:w4.cell? ⟨w1.heap.size+1,5,none⟩=some (.string b.f2):=(zo HG4.out 5).trans rfl;have z4_5:=qy HG4.out 5)
   have HVX:=zy (zl (zl (zl (zj.hz HB4.out) 0 (.int .i64 q1) rfl) 1 (.int .i64 q2) rfl) 2 (.string q3) rfl) (.cells #[.int .i64 q1,.int .i64 q2,.string q3] 30)
   refine bodyPost_ret (qm (rs := [.cell 4 30,.tmp 5]) rfl (by simp) (.cell (w.heap.size+1) 30 _ (0,0) _ rfl HVX huv rfl (by kernel_rfl) (.tmp .nil))) rfl ?_
   exact⟨rfl,zm ((((zj.hr HB4.out).setCell (p:=⟨w.heap.size+1,0,none⟩) (by simp) _).setCell (p:=⟨w.heap.size+1,1,none⟩) (by simp) _).setCell (p:=⟨w.heap.size+1,2,none⟩) (by simp) _) _⟩
  obtain rfl:j=e.f5.length:=by omega
  have hs:=HS.out
  rw [List.drop_length,zj.rest] at hs
  have HMK:=zq.mk hs
  cases zj.kp HB.out
  have hl:=qf HG.out
  have y0:wr.cell? ⟨w1.heap.size+1,0,none⟩=some (.int .i64 a.f0):=(zo HG.out 0).trans rfl
  have y1:wr.cell? ⟨w1.heap.size+1,1,none⟩=some (.int .i64 a.f1):=(zo HG.out 1).trans rfl
  have y2:wr.cell? ⟨w1.heap.size+1,2,none⟩=some (.string a.f2):=(zo HG.out 2).trans rfl
  have y3:wr.cell? ⟨w1.heap.size+1,3,none⟩=some (.int .i64 b.f0):=(zo HG.out 3).trans rfl
  have y4:wr.cell? ⟨w1.heap.size+1,4,none⟩=some (.int .i64 b.f1):=(zo HG.out 4).trans rfl
  have y5:wr.cell? ⟨w1.heap.size+1,5,none⟩=some (.string b.f2):=(zo HG.out 5).trans rfl
  clear HS hs
  go_wp2_with (go_at_call 66;(with_reducible refine(zh.at_ k _ _ _ _ _ _ _ _ _ _ a b r1 r2 r3 r4 _ (LD.below HE.out.ld (zj.hr HB.out)) HMK.out).mono ?_);rintro z w4 ⟨rfl,hb4⟩;have HB4:=zq.mk (HB.out.trans (hb4.mono HB.out.size));clear hb4;cases zj.kp HB4.out)
  have HVX:=(zl (zl (zl (zj.hz (HB4.out)) 0 (.int .i64 r1) rfl) 1 (.int .i64 r2) rfl) 2 (.string r3) rfl)
  refine bodyPost_ret (qm (rs := [.cell 4 30,.tmp 5]) rfl (by simp) (.cell (w.heap.size+1) 30 _ (0,0) _ rfl HVX huv rfl (by kernel_rfl) (.tmp .nil))) rfl ?_
  exact⟨rfl,(((zj.hr (HB4.out)).setCell (p:=⟨w.heap.size+1,0,none⟩) (by simp <;> omega) _).setCell (p:=⟨w.heap.size+1,1,none⟩) (by simp <;> omega) _).setCell (p:=⟨w.heap.size+1,2,none⟩) (by simp <;> omega) _⟩
abbrev zj.wi.w0 (e:S33) (A7:Option Addr) (c7:Nat) (w:World):World:=(w.alloc (.cells #[.int .i64 e.f0,.int .i64 e.f1.f0,.int .i64 e.f1.f1,.string e.f1.f2,.string e.f2,.string e.f3,.int .i64 e.f4,.slice A7 e.f5.length c7] 33)).alloc (.cells #[.int .i64 0,.int .i64 0,.string ⟨#[]⟩] 30)
structure zj.wi.Kp (e:S33) (A7:Option Addr) (c7:Nat) (w W:World):Prop where mk :: (c0:W.cell? ⟨w.heap.size,0,none⟩=some (.int .i64 e.f0)) (c1:W.cell? ⟨w.heap.size,1,none⟩=some (.int .i64 e.f1.f0)) (c2:W.cell? ⟨w.heap.size,2,none⟩=some (.int .i64 e.f1.f1)) (c3:W.cell? ⟨w.heap.size,3,none⟩=some (.string e.f1.f2)) (c4:W.cell? ⟨w.heap.size,4,none⟩=some (.string e.f2)) (c5:W.cell? ⟨w.heap.size,5,none⟩=some (.string e.f3)) (c6:W.cell? ⟨w.heap.size,6,none⟩=some (.int .i64 e.f4)) (c7:W.cell? ⟨w.heap.size,7,none⟩=some (.slice A7 e.f5.length c7)) (c8:W.cell? ⟨w.heap.size+1,0,none⟩=some (.int .i64 0)) (c9:W.cell? ⟨w.heap.size+1,1,none⟩=some (.int .i64 0)) (c10:W.cell? ⟨w.heap.size+1,2,none⟩=some (.string ⟨#[]⟩)) (c11:W.frozen? ⟨w.heap.size+1,0,none⟩=false) (c12:W.frozen? ⟨w.heap.size+1,1,none⟩=false) (c13:W.frozen? ⟨w.heap.size+1,2,none⟩=false) (c14:w.heap.size<W.heap.size) (c15:w.heap.size+1<W.heap.size)
theorem zj.wi.zq7 {e:S33} {A7:Option Addr} {c7:Nat} {w:World} : (zj.wi.w0 e A7 c7 w).heap.size=w.heap.size+1+1:=by simp [zj.wi.w0]
theorem zj.wi.hz {e:S33} {A7:Option Addr} {c7:Nat} {w W:World} (hb:Below (zj.wi.w0 e A7 c7 w).heap.size (zj.wi.w0 e A7 c7 w) W):W.heap[w.heap.size+1]? = some (.cells #[.int .i64 0,.int .i64 0,.string ⟨#[]⟩] 30 (0,0)):=by
 have q_:(w.alloc (.cells #[.int .i64 e.f0,.int .i64 e.f1.f0,.int .i64 e.f1.f1,.string e.f1.f2,.string e.f2,.string e.f3,.int .i64 e.f4,.slice A7 e.f5.length c7] 33)).heap.size=w.heap.size+1:=by simp
 have h:=zjt (w.alloc (.cells #[.int .i64 e.f0,.int .i64 e.f1.f0,.int .i64 e.f1.f1,.string e.f1.f2,.string e.f2,.string e.f3,.int .i64 e.f4,.slice A7 e.f5.length c7] 33)) (.cells #[.int .i64 0,.int .i64 0,.string ⟨#[]⟩] 30)
 rw [q_] at h
 exact zf h hb
theorem zj.wi.hr {e:S33} {A7:Option Addr} {c7:Nat} {w W:World} (hb:Below (zj.wi.w0 e A7 c7 w).heap.size (zj.wi.w0 e A7 c7 w) W):Below w.heap.size w W:=by
 have h0:Below w.heap.size w (zj.wi.w0 e A7 c7 w):=zm (zm (Below.refl _ _) _) _
 exact h0.trans (hb.mono h0.size)
theorem zj.wi.kp {e:S33} {A7:Option Addr} {c7:Nat} {w W:World} (hb:Below (zj.wi.w0 e A7 c7 w).heap.size (zj.wi.w0 e A7 c7 w) W):zj.wi.Kp e A7 c7 w W:=by
 have hs:=hb.size
 rw [zj.wi.zq7] at hs
 exact⟨zp hb (by simp [go_sem]),zp hb (by simp [go_sem]),zp hb (by simp [go_sem]),zp hb (by simp [go_sem]),zp hb (by simp [go_sem]),zp hb (by simp [go_sem]),zp hb (by simp [go_sem]),zp hb (by simp [go_sem]),zp hb (by simp [go_sem]),zp hb (by simp [go_sem]),zp hb (by simp [go_sem]),qy (zj.wi.hz hb) 0,qy (zj.wi.hz hb) 1,qy (zj.wi.hz hb) 2,by omega,by omega⟩
set_option maxRecDepth 100000 in
set_option maxHeartbeats 4000000 in
theorem zj.with_ (row:List S30) (k:Nat) (g:Nat) (n:Nat) (e:S33) (A7:Option Addr) (c7:Nat) (r1 r2:Int) (r3:ByteArray) (r4:Int) (w:World) (he:zj.Env row g w) (hr:Kd.C k33 w A7 e.f5.length e.f5) (hc:e.f5.length≤c7) (h:zj.ev row k n e=some (r1,r2,r3,r4)) :
  Calls Tryd.prog 29 #[.agg #[.int .i64 e.f0,.int .i64 e.f1.f0,.int .i64 e.f1.f1,.string e.f1.f2,.string e.f2,.string e.f3,.int .i64 e.f4,.slice A7 e.f5.length c7],.func (.func 47) #[] #[.pointer (some ⟨g,0,none⟩)]] w fun e w'=>e = .returned (.tuple #[.agg #[.int .i64 r1,.int .i64 r2,.string r3],.int .i64 r4])∧Below w.heap.size w w':=by
 have huv:=Tryd.underlying30
 have HA:=zq.mk (fun (W:World) (hb:Below (zj.wi.w0 e A7 c7 w).heap.size (zj.wi.w0 e A7 c7 w) W)=>zj.asked row k g n e A7 c7 r1 r2 r3 r4 W (he.below (zj.wi.hr hb)) (Kd.zqe hr (zj.wi.hr hb)) hc h)
 clear he hr h
 go_enter Tryd.func29,Tryd.ntmps29
 go_wp2_with (go_at_call 46;(with_reducible refine(za.lift (W0:=zj.wi.w0 e A7 c7 w) (Below.refl _ _) (HA.out _ (Below.refl _ _))).mono ?_);rintro z w1 ⟨rfl,hb1⟩;have HB1:=zq.mk hb1;cases zj.wi.kp hb1;clear hb1)
 have HVX:=(zl (zl (zl (zj.wi.hz HB1.out) 0 (.int .i64 r1) rfl) 1 (.int .i64 r2) rfl) 2 (.string r3) rfl)
 refine bodyPost_ret (qm (rs := [.cell 4 30,.tmp 5]) rfl (by simp) (.cell (w.heap.size+1) 30 _ (0,0) _ rfl HVX huv rfl (by kernel_rfl) (.tmp .nil))) rfl ?_
 exact⟨rfl,(((zj.wi.hr HB1.out).setCell (p:=⟨w.heap.size+1,0,none⟩) (by simp <;> omega) _).setCell (p:=⟨w.heap.size+1,1,none⟩) (by simp <;> omega) _).setCell (p:=⟨w.heap.size+1,2,none⟩) (by simp <;> omega) _⟩

/-! ### zi: function 10, by hand -/
def zi.one (row : List S30) (k : Nat) (x : S33) : Option (Bool × Int) :=
  (zj.ev row k 12 x).bind fun p => if p.2.2.2 = 0 then (zqz.f k p.1 p.2.1 p.2.2.1).bind fun q => some (q.1 == 2 && q.2 == 0, q.2) else some (false, p.2.2.2)
def zi.cj (row : List S30) (k : Nat) : Nat → S33 → Option (Bool × Int)
  | 0, e => zi.one row k e
  | n + 1, e => if e.f0 = 19 ∧ e.f5.length = 2 then (zi.cj row k n (zg e.f5 0)).bind fun r => if r.1 = true then zi.cj row k n (zg e.f5 1) else some r else zi.one row k e
def zi.none_ (e : S33) : Prop := e.f0 = 0 ∧ qq.zeroV e.f1 ∧ (e.f2 ++ e.f3).toList = [] ∧ e.f4 = 0 ∧ e.f5.length = 0
instance (e : S33) : Decidable (zi.none_ e) := by unfold zi.none_; infer_instance
def zi.yes : S33 := ⟨1, ⟨1, 1, ⟨#[]⟩⟩, ⟨#[]⟩, ⟨#[]⟩, 0, []⟩
def zi.expr (a0 a1 a2 : Int) (a3 a4 a5 : ByteArray) (a6 : Int) (l7 : List S33) : S33 := ⟨a0, ⟨a1, a2, a3⟩, a4, a5, a6, l7⟩
def zi.of (row : List S30) (k : Nat) (e : S33) : Option (Bool × Int) := (zqo.f k e.f0 e.f1.f0 e.f1.f1 e.f1.f2 e.f2 e.f3 e.f4 e.f5 row).bind fun t => if t = 0 then zi.cj row k 11 e else some (false, t)
def zi.f (k : Nat) (a0_0 : Int) (a0_1 : Int) (a0_2 : Int) (a0_3 : ByteArray) (a0_4 : ByteArray) (a0_5 : ByteArray) (a0_6 : Int) (l0_7 : List S33) (l1 : List S30) : Option (Bool × Int) :=
  if 9223372036854775807 < a0_4.size + a0_5.size then none else if zi.none_ (zi.expr a0_0 a0_1 a0_2 a0_3 a0_4 a0_5 a0_6 l0_7) then zi.of l1 k zi.yes else zi.of l1 k (zi.expr a0_0 a0_1 a0_2 a0_3 a0_4 a0_5 a0_6 l0_7)
theorem zi.zkb (row : List S30) (k : Nat) (x : S33) : LeO (zi.one row k x) (zi.one row (k + 1) x) := LeO.bind (zj.mono_ev _ _ _ _) (fun _ => LeO.ite (LeO.bind (zqz.mono _ _ _ _) (fun _ => LeO.refl _)) (LeO.refl _))
theorem zi.mono_cj (row : List S30) (k : Nat) : ∀ n x, LeO (zi.cj row k n x) (zi.cj row (k + 1) n x)
  | 0, x => zi.zkb row k x
  | n + 1, x => by
    unfold zi.cj
    exact LeO.ite (LeO.bind (zi.mono_cj row k n _) (fun _ => LeO.ite (zi.mono_cj row k n _) (LeO.refl _))) (zi.zkb row k x)
theorem zi.zx7 (row : List S30) (k : Nat) (x : S33) : LeO (zi.of row k x) (zi.of row (k + 1) x) := LeO.bind (zqo.mono _ _ _ _ _ _ _ _ _ _) (fun _ => LeO.ite (zi.mono_cj row k 11 x) (LeO.refl _))
theorem zi.mono : ∀ a0 a1 a2 a3 a4 a5 a6 a7 a8 k, LeO (zi.f k a0 a1 a2 a3 a4 a5 a6 a7 a8) (zi.f (k + 1) a0 a1 a2 a3 a4 a5 a6 a7 a8) := fun _ _ _ _ _ _ _ _ _ k => LeO.ite (LeO.refl _) (LeO.ite (zi.zx7 _ _ _) (zi.zx7 _ _ _))
theorem zi.bcell {W w1 : World} (hb : Below W.heap.size W w1) : (∀ b o, b < W.heap.size → w1.cell? ⟨b, o, none⟩ = W.cell? ⟨b, o, none⟩) ∧ (∀ b o, b < W.heap.size → w1.frozen? ⟨b, o, none⟩ = W.frozen? ⟨b, o, none⟩) := ⟨fun b o h => hb.cell (p := ⟨b, o, none⟩) h, fun b o h => hb.frozen (p := ⟨b, o, none⟩) h⟩
theorem zi.new2 (W : World) (o o2 o3 : Obj) : (((W.alloc o).alloc o2).alloc o3).heap[W.heap.size + 1 + 1]? = some o3 := by
  have q_ : ((W.alloc o).alloc o2).heap.size = W.heap.size + 1 + 1 := by simp
  have h := zjt ((W.alloc o).alloc o2) o3
  rwa [q_] at h
structure zi.St (w0 : World) (A : Option Addr) (n c : Nat) (g1 g2 g3 : Nat) (b : Bool) (d : Int) (W : World) : Prop where mk ::
  (lo : Below w0.heap.size w0 W) (r : W.heap[g1]? = some (.cells #[.slice A n c] 34 (0, 0))) (h2 : W.heap[g2]? = some (.cells #[.bool b] 4 (0, 0))) (h3 : W.heap[g3]? = some (.cells #[.int .i64 d] 24 (0, 0)))
structure zi.Ap (w0 : World) (g1 g2 g3 : Nat) : Prop where mk :: (l1 : w0.heap.size ≤ g1) (l2 : w0.heap.size ≤ g2) (l3 : w0.heap.size ≤ g3) (n1 : g1 ≠ g2) (n2 : g1 ≠ g3) (n3 : g2 ≠ g3)
def zi.Fr (g2 g3 : Nat) (W V : World) : Prop := W.heap.size ≤ V.heap.size ∧ ∀ j, j < W.heap.size → j ≠ g2 → j ≠ g3 → V.heap[j]? = W.heap[j]?
section
variable {w0 W V : World} {A : Option Addr} {n c g1 g2 g3 : Nat} {b b2 : Bool} {d d2 : Int}
theorem zi.St.step (h : zi.St w0 A n c g1 g2 g3 b d W) (hb : Below W.heap.size W V) : zi.St w0 A n c g1 g2 g3 b d V := ⟨h.lo.trans (hb.mono h.lo.size), zf h.r hb, zf h.h2 hb, zf h.h3 hb⟩
theorem zi.St.put (h : zi.St w0 A n c g1 g2 g3 b d W) (a : zi.Ap w0 g1 g2 g3) (b2 : Bool) (d2 : Int) : zi.St w0 A n c g1 g2 g3 b2 d2 ((W.setCell ⟨g2, 0, none⟩ (.bool b2)).setCell ⟨g3, 0, none⟩ (.int .i64 d2)) :=
  ⟨(h.lo.setCell (p := ⟨g2, 0, none⟩) a.l2 _).setCell (p := ⟨g3, 0, none⟩) a.l3 _, zqv (zqv h.r (p := ⟨g2, 0, none⟩) a.n1 _) (p := ⟨g3, 0, none⟩) a.n2 _, zqv (zl h.h2 0 _ rfl) (p := ⟨g3, 0, none⟩) a.n3 _, zl (zqv h.h3 (p := ⟨g2, 0, none⟩) (Ne.symm a.n3) _) 0 _ rfl⟩
theorem zi.Fr.of (g2 g3 : Nat) (hb : Below W.heap.size W V) : zi.Fr g2 g3 W V := ⟨hb.size, fun j hj _ _ => hb.block j hj⟩
theorem zi.Fr.trans {U : World} (h : zi.Fr g2 g3 W V) (h' : zi.Fr g2 g3 V U) : zi.Fr g2 g3 W U := ⟨Nat.le_trans h.1 h'.1, fun j hj a b => (h'.2 j (Nat.lt_of_lt_of_le hj h.1) a b).trans (h.2 j hj a b)⟩
theorem zi.Fr.put (h : zi.Fr g2 g3 W V) (u u2 : Value) : zi.Fr g2 g3 W ((V.setCell ⟨g2, 0, none⟩ u).setCell ⟨g3, 0, none⟩ u2) :=
  ⟨by simp; exact h.1, fun j hj a b => (Below.heap_setCell _ ⟨g3, 0, none⟩ _ j b).trans ((Below.heap_setCell _ ⟨g2, 0, none⟩ _ j a).trans (h.2 j hj a b))⟩
end
set_option maxRecDepth 100000 in
set_option maxHeartbeats 8000000 in
theorem zi.clo (row : List S30) (k : Nat) (w0 : World) (g1 g2 g3 : Nat) (ha : zi.Ap w0 g1 g2 g3) (hL : LD w0) (A1 : Option Addr) (c1 : Nat) (hrow : Kd.C k30 w0 A1 row.length row) (x : S33) (A8 : Option Addr) (c8 : Nat) (hx : Kd.C k33 w0 A8 x.f5.length x.f5) (hc : x.f5.length ≤ c8) (b0 : Bool) (d0 : Int) (b : Bool) (d : Int) (W : World)
    (hS : zi.St w0 A1 row.length c1 g1 g2 g3 b0 d0 W) (h : zi.one row k x = some (b, d)) :
    Calls Tryd.prog 28 #[.agg #[.int .i64 x.f0, .int .i64 x.f1.f0, .int .i64 x.f1.f1, .string x.f1.f2, .string x.f2, .string x.f3, .int .i64 x.f4, .slice A8 x.f5.length c8], .pointer (some ⟨g1, 0, none⟩), .pointer (some ⟨g2, 0, none⟩), .pointer (some ⟨g3, 0, none⟩)] W fun e w' => e = .returned (.bool b) ∧ zi.St w0 A1 row.length c1 g1 g2 g3 b d w' ∧ zi.Fr g2 g3 W w' := by
  obtain ⟨⟨p1, p2, p3, p4⟩, hp, h⟩ := Option.bind_eq_some_iff.1 h
  dsimp only at h
  have HAP := zq.mk ha
  have nn1 := ha.n3
  have HL := zq.mk hL
  have HRW := zq.mk hrow
  have HX := zq.mk hx
  have HS := zq.mk hS
  have HP := zq.mk hp
  have s1 : W.cell? ⟨g1, 0, none⟩ = some (.slice A1 row.length c1) := (zo hS.r 0).trans rfl
  have y0 : W.cell? ⟨g2, 0, none⟩ = some (.bool b0) := (zo hS.h2 0).trans rfl
  have y1 := qy hS.h2 0
  have y2 : W.cell? ⟨g3, 0, none⟩ = some (.int .i64 d0) := (zo hS.h3 0).trans rfl
  have y3 := qy hS.h3 0
  have q1 := qf hS.r
  have q2 := qf hS.h2
  have q3 := qf hS.h3
  have r1 : g2 ≠ W.heap.size + 1 := by omega
  have r2 : W.heap.size + 1 ≠ g2 := by omega
  have r3 : g3 ≠ W.heap.size + 1 := by omega
  have r4 : W.heap.size + 1 ≠ g3 := by omega
  have r5 : g2 ≠ W.heap.size + 1 + 1 := by omega
  have r6 : W.heap.size + 1 + 1 ≠ g2 := by omega
  have r7 : g3 ≠ W.heap.size + 1 + 1 := by omega
  have r8 : W.heap.size + 1 + 1 ≠ g3 := by omega
  clear ha hL hrow hx hS hp
  go_enter Tryd.func28, Tryd.ntmps28
  go_upto_region 1 with (fail)
  go_cut [6, 7] (fun v6 v7 wc => ∃ g6 : Nat, v6 = .pointer (some ⟨g6, 0, none⟩) ∧ v7 = .int .i64 p4 ∧ zq (Below W.heap.size W wc) ∧ zq (wc.heap[g6]? = some (.cells #[.int .i64 p1, .int .i64 p2, .string p3] 30)) ∧ W.heap.size ≤ g6)
  case first =>
    first | fail | (go_region_with (first
      | (go_at_call 30; refine (zj.made row A1 row.length c1 _).mono ?_; rintro x w2 ⟨rfl, rfl⟩)
      | (go_at_call 29; refine (zj.with_ row k _ 12 x A8 c8 p1 p2 p3 _ _ ⟨LD.below HL.out (HS.out.step (by repeat (first | exact Below.refl _ _ | apply zm | apply qd | apply qe))).lo, A1, c1, by simp [go_sem], Kd.zqe HRW.out (HS.out.step (by repeat (first | exact Below.refl _ _ | apply zm | apply qd | apply qe))).lo⟩ (Kd.zqe HX.out (HS.out.step (by repeat (first | exact Below.refl _ _ | apply zm | apply qd | apply qe))).lo) hc HP.out).mono ?_; rintro x w3 ⟨rfl, hb3⟩; have HB3 := zq.mk (((by repeat (first | exact Below.refl _ _ | apply zm | apply qd | apply qe)) : Below W.heap.size W _).trans (hb3.mono (zv (by repeat (first | exact Below.refl _ _ | apply zm | apply qd | apply qe))))); have HS3 := zq.mk (HS.out.step HB3.out); have HD3 := zq.mk hb3; obtain ⟨hc3, hf3⟩ := zi.bcell hb3; have hz3 := hb3.size; clear hb3))) | fail
    all_goals
      go_wp2_with fail
      go_meet
      first
        | (with_reducible exact ⟨_, rfl, rfl, ⟨zm HB3.out _⟩, ⟨zjt _ _⟩, HB3.out.size⟩)
        | (have hz : w3.heap[W.heap.size + 1 + 1]? = some (.cells #[.int .i64 0, .int .i64 0, .string ⟨#[]⟩] 30 (0, 0)) := zf (by exact zi.new2 W _ _ _) HD3.out; exact ⟨_, rfl, rfl, ⟨((HB3.out.setCell (p := ⟨W.heap.size + 1 + 1, 0, none⟩) (Nat.le_succ_of_le (Nat.le_succ _)) _).setCell (p := ⟨W.heap.size + 1 + 1, 1, none⟩) (Nat.le_succ_of_le (Nat.le_succ _)) _).setCell (p := ⟨W.heap.size + 1 + 1, 2, none⟩) (Nat.le_succ_of_le (Nat.le_succ _)) _⟩, ⟨zl (zl (zl hz 0 _ rfl) 1 _ rfl) 2 _ rfl⟩, Nat.le_succ_of_le (Nat.le_succ _)⟩)
        | (have hz : w3.heap[W.heap.size + 1]? = some (.cells #[.int .i64 0, .int .i64 0, .string ⟨#[]⟩] 30 (0, 0)) := zf (by exact zy (zj.new1 W _ _) _) HD3.out; exact ⟨_, rfl, rfl, ⟨((HB3.out.setCell (p := ⟨W.heap.size + 1, 0, none⟩) (Nat.le_succ _) _).setCell (p := ⟨W.heap.size + 1, 1, none⟩) (Nat.le_succ _) _).setCell (p := ⟨W.heap.size + 1, 2, none⟩) (Nat.le_succ _) _⟩, ⟨zl (zl (zl hz 0 _ rfl) 1 _ rfl) 2 _ rfl⟩, Nat.le_succ _⟩)
  obtain ⟨g6, rfl, rfl, HB3, HG, l6⟩ := hcut
  have HS3 := zq.mk (HS.out.step HB3.out)
  have y3 : wc.cell? ⟨g2, 0, none⟩ = some (.bool b0) := (zo HS3.out.h2 0).trans rfl
  have z3 := qy HS3.out.h2 0
  have u3 : wc.cell? ⟨g3, 0, none⟩ = some (.int .i64 d0) := (zo HS3.out.h3 0).trans rfl
  have v3 := qy HS3.out.h3 0
  have l2_3 := qf HS3.out.h2
  have l3_3 := qf HS3.out.h3
  have ne_3 := HAP.out.n3
  have l6_ := qf HG.out
  have x0 : wc.cell? ⟨g6, 0, none⟩ = some (.int .i64 p1) := (zo HG.out 0).trans rfl
  have x1 : wc.cell? ⟨g6, 1, none⟩ = some (.int .i64 p2) := (zo HG.out 1).trans rfl
  have x2 : wc.cell? ⟨g6, 2, none⟩ = some (.string p3) := (zo HG.out 2).trans rfl
  by_cases z : p4 = 0
  · rw [if_pos z] at h
    subst z
    obtain ⟨⟨u, v⟩, hu, h⟩ := Option.bind_eq_some_iff.1 h
    have HU := zq.mk hu
    obtain ⟨hb, rfl⟩ : (u == 2 && v == 0) = b ∧ v = d := by simpa using h
    clear h hu
    by_cases u2 : u = 2
    · subst u2
      obtain rfl : (v == 0) = b := by simpa using hb
      clear hb
      go_wp2_with (go_at_call 31; (with_reducible refine (za.lift HB3.out (zqz.calls k _ _ _ _ v _ (LD.below HL.out HS3.out.lo) HU.out)).mono ?_); rintro z w4 ⟨rfl, hb4⟩; have HB4 := zq.mk hb4; have HS4 := zq.mk (HS.out.step hb4); clear hb4; have y4 : w4.cell? ⟨g2, 0, none⟩ = some (.bool b0) := (zo HS4.out.h2 0).trans rfl; have z4 := qy HS4.out.h2 0; have u4 : w4.cell? ⟨g3, 0, none⟩ = some (.int .i64 d0) := (zo HS4.out.h3 0).trans rfl; have v4 := qy HS4.out.h3 0; have l2_4 := qf HS4.out.h2; have l3_4 := qf HS4.out.h3; have ne_4 := HAP.out.n3)
      go_ret
      exact ⟨rfl, HS4.out.put HAP.out _ _, (zi.Fr.of g2 g3 HB4.out).put _ _⟩
    · have du : (u == 2) = false := by simpa using u2
      obtain rfl : false = b := by rw [← hb, du]; rfl
      clear hb u2
      go_wp2_with (go_at_call 31; (with_reducible refine (za.lift HB3.out (zqz.calls k _ _ _ _ v _ (LD.below HL.out HS3.out.lo) HU.out)).mono ?_); rintro z w4 ⟨rfl, hb4⟩; have HB4 := zq.mk hb4; have HS4 := zq.mk (HS.out.step hb4); clear hb4; have y4 : w4.cell? ⟨g2, 0, none⟩ = some (.bool b0) := (zo HS4.out.h2 0).trans rfl; have z4 := qy HS4.out.h2 0; have u4 : w4.cell? ⟨g3, 0, none⟩ = some (.int .i64 d0) := (zo HS4.out.h3 0).trans rfl; have v4 := qy HS4.out.h3 0; have l2_4 := qf HS4.out.h2; have l3_4 := qf HS4.out.h3; have ne_4 := HAP.out.n3)
      go_ret
      exact ⟨rfl, HS4.out.put HAP.out _ _, (zi.Fr.of g2 g3 HB4.out).put _ _⟩
  · rw [if_neg z] at h
    obtain ⟨rfl, rfl⟩ : false = b ∧ p4 = d := by simpa using h
    have dz : (p4 == 0) = false := by simpa using z
    clear h z
    go_wp2
    go_ret
    exact ⟨rfl, HS3.out.put HAP.out _ _, (zi.Fr.of g2 g3 HB3.out).put _ _⟩
set_option maxRecDepth 100000 in
set_option maxHeartbeats 8000000 in
theorem zi.leaf (row : List S30) (k : Nat) (w0 : World) (g1 g2 g3 : Nat) (ha : zi.Ap w0 g1 g2 g3) (hL : LD w0) (A1 : Option Addr) (c1 : Nat) (hrow : Kd.C k30 w0 A1 row.length row) (e : S33) (A7 : Option Addr) (c7 : Nat) (hx : Kd.C k33 w0 A7 e.f5.length e.f5) (hc : e.f5.length ≤ c7) (b0 : Bool) (d0 : Int) (b : Bool) (d : Int) (W : World) (m : Int)
    (hS : zi.St w0 A1 row.length c1 g1 g2 g3 b0 d0 W) (h : zi.one row k e = some (b, d)) (hd : ¬ e.f0 = 19 ∨ ¬ e.f5.length = 2 ∨ 12 ≤ m) :
    Calls Tryd.prog 27 #[.agg #[.int .i64 e.f0, .int .i64 e.f1.f0, .int .i64 e.f1.f1, .string e.f1.f2, .string e.f2, .string e.f3, .int .i64 e.f4, .slice A7 e.f5.length c7], .int .i64 m, .func (.func 28) #[] #[.pointer (some ⟨g1, 0, none⟩), .pointer (some ⟨g2, 0, none⟩), .pointer (some ⟨g3, 0, none⟩)]] W fun x w' => x = .returned (.bool b) ∧ zi.St w0 A1 row.length c1 g1 g2 g3 b d w' ∧ zi.Fr g2 g3 W w' := by
  have hba := zm (Below.refl W.heap.size W) (.cells #[.int .i64 e.f0, .int .i64 e.f1.f0, .int .i64 e.f1.f1, .string e.f1.f2, .string e.f2, .string e.f3, .int .i64 e.f4, .slice A7 e.f5.length c7] 33)
  have hcall : Calls Tryd.prog 28 #[.agg #[.int .i64 e.f0, .int .i64 e.f1.f0, .int .i64 e.f1.f1, .string e.f1.f2, .string e.f2, .string e.f3, .int .i64 e.f4, .slice A7 e.f5.length c7], .pointer (some ⟨g1, 0, none⟩), .pointer (some ⟨g2, 0, none⟩), .pointer (some ⟨g3, 0, none⟩)] (W.alloc (.cells #[.int .i64 e.f0, .int .i64 e.f1.f0, .int .i64 e.f1.f1, .string e.f1.f2, .string e.f2, .string e.f3, .int .i64 e.f4, .slice A7 e.f5.length c7] 33)) fun x w' => x = .returned (.bool b) ∧ zi.St w0 A1 row.length c1 g1 g2 g3 b d w' ∧ zi.Fr g2 g3 W w' :=
    (zi.clo row k w0 g1 g2 g3 ha hL A1 c1 hrow e A7 c7 hx hc b0 d0 b d _ (hS.step hba) h).mono fun x w' ⟨h1, h2, h3⟩ => ⟨h1, h2, (zi.Fr.of g2 g3 hba).trans h3⟩
  have HC := zq.mk hcall
  have hm := hx.2.1
  clear hcall hba ha hL hrow hx hS h
  by_cases h1 : e.f0 = 19
  rotate_left
  · have d1 : (e.f0 != 19) = true := by simpa using h1
    clear h1 hd
    go_enter Tryd.func27, Tryd.ntmps27
    go_wp2_with (go_at_call 28; (with_reducible refine HC.out.mono ?_); rintro x w2 ⟨rfl, hs, hf⟩; have HS := zq.mk hs; have HF := zq.mk hf; clear hs hf)
    go_ret
    exact ⟨rfl, HS.out, HF.out⟩
  have d1 : (e.f0 != 19) = false := by simpa using h1
  by_cases h2 : e.f5.length = 2
  rotate_left
  · have d2 : ((e.f5.length : Int) != 2) = true := by rw [bne_iff_ne]; omega
    clear h1 h2 hd
    go_enter Tryd.func27, Tryd.ntmps27
    go_wp2_with (go_at_call 28; (with_reducible refine HC.out.mono ?_); rintro x w2 ⟨rfl, hs, hf⟩; have HS := zq.mk hs; have HF := zq.mk hf; clear hs hf)
    go_ret
    exact ⟨rfl, HS.out, HF.out⟩
  have d2 : ((e.f5.length : Int) != 2) = false := by rw [bne_eq_false_iff_eq]; omega
  have d3 : (12 : Int) ≤ m := by rcases hd with hd | hd | hd <;> first | exact absurd h1 hd | exact absurd h2 hd | exact hd
  clear h1 h2 hd
  go_enter Tryd.func27, Tryd.ntmps27
  go_wp2_with (go_at_call 28; (with_reducible refine HC.out.mono ?_); rintro x w2 ⟨rfl, hs, hf⟩; have HS := zq.mk hs; have HF := zq.mk hf; clear hs hf)
  go_ret
  exact ⟨rfl, HS.out, HF.out⟩
set_option maxRecDepth 100000 in
set_option maxHeartbeats 8000000 in
theorem zi.conj (row : List S30) (k : Nat) (w0 : World) (g1 g2 g3 : Nat) (ha : zi.Ap w0 g1 g2 g3) (hL : LD w0) (A1 : Option Addr) (c1 : Nat) (hrow : Kd.C k30 w0 A1 row.length row) : ∀ (n : Nat) (e : S33) (A7 : Option Addr) (c7 : Nat) (b0 : Bool) (d0 : Int) (b : Bool) (d : Int) (W : World), n ≤ 11 → Kd.C k33 w0 A7 e.f5.length e.f5 → e.f5.length ≤ c7 →
    zi.St w0 A1 row.length c1 g1 g2 g3 b0 d0 W → zi.cj row k n e = some (b, d) →
    Calls Tryd.prog 27 #[.agg #[.int .i64 e.f0, .int .i64 e.f1.f0, .int .i64 e.f1.f1, .string e.f1.f2, .string e.f2, .string e.f3, .int .i64 e.f4, .slice A7 e.f5.length c7], .int .i64 (12 - (n : Int)), .func (.func 28) #[] #[.pointer (some ⟨g1, 0, none⟩), .pointer (some ⟨g2, 0, none⟩), .pointer (some ⟨g3, 0, none⟩)]] W fun x w' => x = .returned (.bool b) ∧ zi.St w0 A1 row.length c1 g1 g2 g3 b d w' ∧ zi.Fr g2 g3 W w' := by
  intro n
  induction n with
  | zero =>
    intro e A7 c7 b0 d0 b d W hn hx hc hS h
    exact zi.leaf row k w0 g1 g2 g3 ha hL A1 c1 hrow e A7 c7 hx hc b0 d0 b d W _ hS h (.inr (.inr (by omega)))
  | succ n ih =>
  intro e A7 c7 b0 d0 b d W hn hx hc hS h
  rw [zi.cj] at h
  by_cases hcd : e.f0 = 19 ∧ e.f5.length = 2
  rotate_left
  · rw [if_neg hcd] at h
    exact zi.leaf row k w0 g1 g2 g3 ha hL A1 c1 hrow e A7 c7 hx hc b0 d0 b d W _ hS h (by by_cases q : e.f0 = 19; exact .inr (.inl (fun q2 => hcd ⟨q, q2⟩)); exact .inl q)
  rw [if_pos hcd] at h
  obtain ⟨h1, h2⟩ := hcd
  obtain ⟨⟨b1, d1⟩, hq, h⟩ := Option.bind_eq_some_iff.1 h
  dsimp only at h
  obtain ⟨bb, oo, rfl, hcs⟩ := qq.at_ hx (by omega)
  obtain ⟨A8, c8, p0, p1, p2, p3, p4, p5, p6, p7, l8, r8⟩ := hcs 0 (by omega)
  obtain ⟨A9, c9, y0, y1, y2, y3, y4, y5, y6, y7, l9, r9⟩ := hcs 1 (by omega)
  simp only [Nat.zero_mul, Nat.add_zero] at p0 p1 p2 p3 p4 p5 p6 p7
  simp only [Nat.one_mul, Nat.add_assoc, Nat.reduceAdd] at y0 y1 y2 y3 y4 y5 y6 y7
  have e0 : zg e.f5 0 = e.f5[0] := by simp [zg, List.getD_eq_getElem?_getD, h2]
  have e1 : zg e.f5 1 = e.f5[1] := by simp [zg, List.getD_eq_getElem?_getD, h2]
  rw [e0] at hq
  rw [e1] at h
  generalize hx0 : e.f5[0] = x0 at *
  generalize hx1 : e.f5[1] = x1 at *
  have hbw : bb < w0.heap.size := World.block_lt_of_cell? w0 _ p0
  obtain ⟨m, hd1, hd2⟩ : ∃ m : Int, m = 12 - ((n + 1 : Nat) : Int) ∧ m + 1 = 12 - (n : Int) := ⟨_, rfl, by omega⟩
  rw [← hd1]
  have hba := zm (Below.refl W.heap.size W) (.cells #[.int .i64 e.f0, .int .i64 e.f1.f0, .int .i64 e.f1.f1, .string e.f1.f2, .string e.f2, .string e.f3, .int .i64 e.f4, .slice (some ⟨bb, oo, none⟩) e.f5.length c7] 33)
  have hcall1 : Calls Tryd.prog 27 #[.agg #[.int .i64 x0.f0, .int .i64 x0.f1.f0, .int .i64 x0.f1.f1, .string x0.f1.f2, .string x0.f2, .string x0.f3, .int .i64 x0.f4, .slice A8 x0.f5.length c8], .int .i64 (m + 1), .func (.func 28) #[] #[.pointer (some ⟨g1, 0, none⟩), .pointer (some ⟨g2, 0, none⟩), .pointer (some ⟨g3, 0, none⟩)]] (W.alloc (.cells #[.int .i64 e.f0, .int .i64 e.f1.f0, .int .i64 e.f1.f1, .string e.f1.f2, .string e.f2, .string e.f3, .int .i64 e.f4, .slice (some ⟨bb, oo, none⟩) e.f5.length c7] 33)) fun x w' => x = .returned (.bool b1) ∧ zi.St w0 A1 row.length c1 g1 g2 g3 b1 d1 w' ∧ zi.Fr g2 g3 (W.alloc (.cells #[.int .i64 e.f0, .int .i64 e.f1.f0, .int .i64 e.f1.f1, .string e.f1.f2, .string e.f2, .string e.f3, .int .i64 e.f4, .slice (some ⟨bb, oo, none⟩) e.f5.length c7] 33)) w' := by
    rw [hd2]
    exact ih x0 A8 c8 b0 d0 b1 d1 _ (by omega) r8 l8 (hS.step hba) hq
  have hcall2 : b1 = true → ∀ V : World, zi.St w0 A1 row.length c1 g1 g2 g3 b1 d1 V → zi.Fr g2 g3 (W.alloc (.cells #[.int .i64 e.f0, .int .i64 e.f1.f0, .int .i64 e.f1.f1, .string e.f1.f2, .string e.f2, .string e.f3, .int .i64 e.f4, .slice (some ⟨bb, oo, none⟩) e.f5.length c7] 33)) V → Calls Tryd.prog 27 #[.agg #[.int .i64 x1.f0, .int .i64 x1.f1.f0, .int .i64 x1.f1.f1, .string x1.f1.f2, .string x1.f2, .string x1.f3, .int .i64 x1.f4, .slice A9 x1.f5.length c9], .int .i64 (m + 1), .func (.func 28) #[] #[.pointer (some ⟨g1, 0, none⟩), .pointer (some ⟨g2, 0, none⟩), .pointer (some ⟨g3, 0, none⟩)]] V fun x w' => x = .returned (.bool b) ∧ zi.St w0 A1 row.length c1 g1 g2 g3 b d w' ∧ zi.Fr g2 g3 W w' := fun hb V hs hf => by
    rw [if_pos hb] at h
    rw [hd2]
    exact (ih x1 A9 c9 b1 d1 b d V (by omega) r9 l9 hs h).mono fun x w' ⟨k1, k2, k3⟩ => ⟨k1, k2, ((zi.Fr.of g2 g3 hba).trans hf).trans k3⟩
  have hread : ∀ V : World, zi.St w0 A1 row.length c1 g1 g2 g3 b1 d1 V → zi.Fr g2 g3 (W.alloc (.cells #[.int .i64 e.f0, .int .i64 e.f1.f0, .int .i64 e.f1.f1, .string e.f1.f2, .string e.f2, .string e.f3, .int .i64 e.f4, .slice (some ⟨bb, oo, none⟩) e.f5.length c7] 33)) V → V.cell? ⟨W.heap.size, 7, none⟩ = some (.slice (some ⟨bb, oo, none⟩) e.f5.length c7) ∧ V.cell? ⟨bb, oo + 8, none⟩ = some (.int .i64 x1.f0) ∧ V.cell? ⟨bb, oo + 9, none⟩ = some (.int .i64 x1.f1.f0) ∧ V.cell? ⟨bb, oo + 10, none⟩ = some (.int .i64 x1.f1.f1) ∧ V.cell? ⟨bb, oo + 11, none⟩ = some (.string x1.f1.f2) ∧ V.cell? ⟨bb, oo + 12, none⟩ = some (.string x1.f2) ∧ V.cell? ⟨bb, oo + 13, none⟩ = some (.string x1.f3) ∧ V.cell? ⟨bb, oo + 14, none⟩ = some (.int .i64 x1.f4) ∧ V.cell? ⟨bb, oo + 15, none⟩ = some (.slice A9 x1.f5.length c9) := fun V hs hf => by
    have q2 := qf hS.h2
    have q3 := qf hS.h3
    have hb : V.heap[W.heap.size]? = some (.cells #[.int .i64 e.f0, .int .i64 e.f1.f0, .int .i64 e.f1.f1, .string e.f1.f2, .string e.f2, .string e.f3, .int .i64 e.f4, .slice (some ⟨bb, oo, none⟩) e.f5.length c7] 33 (0, 0)) := (hf.2 W.heap.size (by simp) (by omega) (by omega)).trans (zjt W _)
    exact ⟨(zo hb 7).trans rfl, zp hs.lo y0, zp hs.lo y1, zp hs.lo y2, zp hs.lo y3, zp hs.lo y4, zp hs.lo y5, zp hs.lo y6, zp hs.lo y7⟩
  have HRD := zq.mk hread
  have HC1 := zq.mk hcall1
  have HC2 := zq.mk hcall2
  have HBA := zq.mk (zi.Fr.of g2 g3 hba)
  have HH := zq.mk h
  have z0 := zp hS.lo p0
  have z1 := zp hS.lo p1
  have z2 := zp hS.lo p2
  have z3 := zp hS.lo p3
  have z4 := zp hS.lo p4
  have z5 := zp hS.lo p5
  have z6 := zp hS.lo p6
  have z7 := zp hS.lo p7
  have hbl : bb < W.heap.size := World.block_lt_of_cell? W _ z0
  have n1 : (e.f0 != 19) = false := by simpa using h1
  have n2 : ((e.f5.length : Int) != 2) = false := by rw [bne_eq_false_iff_eq]; omega
  have n3 : ¬ (12 : Int) ≤ m := by omega
  have n4 : IntKind.i64.wrap (m + 1) = m + 1 := by rw [IntKind.wrap_i64]; omega
  have n5 : (0 : Int) < (e.f5.length : Int) := by omega
  have n6 : (1 : Int) < (e.f5.length : Int) := by omega
  have n7 : 0 < e.f5.length := by omega
  have n8 : 1 < e.f5.length := by omega
  clear hcall1 hcall2 hread hcs hx hS h h1 h2 e0 e1 hx0 hx1 ih hd1 hd2 l8 l9 r8 r9 hn hq hba p0 p1 p2 p3 p4 p5 p6 p7 y0 y1 y2 y3 y4 y5 y6 y7 ha hL hrow hbw
  cases b1 with
  | true =>
    go_enter Tryd.func27, Tryd.ntmps27
    go_wp2_with (first
      | (go_at_call 27; (with_reducible refine HC1.out.mono ?_); rintro x w2 ⟨rfl, hs, hf⟩; (obtain ⟨u7, r0, r1, r2, r3, r4, r5, r6, r7⟩ := HRD.out w2 hs hf); have HC3 := zq.mk (HC2.out rfl w2 hs hf); clear hs hf)
      | (go_at_call 27; (with_reducible refine HC3.out.mono ?_); rintro x w3 ⟨rfl, hs, hf⟩; have HS := zq.mk hs; have HFR := zq.mk hf; clear hs hf))
    go_ret
    exact ⟨rfl, HS.out, HFR.out⟩
  | false =>
    have hh := HH.out
    rw [if_neg (by decide)] at hh
    obtain ⟨rfl, rfl⟩ : false = b ∧ d1 = d := by simpa using hh
    clear hh HH
    go_enter Tryd.func27, Tryd.ntmps27
    go_wp2_with (go_at_call 27; (with_reducible refine HC1.out.mono ?_); rintro x w2 ⟨rfl, hs, hf⟩; have HS := zq.mk hs; have HFR := zq.mk (HBA.out.trans hf); clear hs hf)
    go_ret
    exact ⟨rfl, HS.out, HFR.out⟩
set_option maxRecDepth 100000 in
set_option maxHeartbeats 8000000 in
theorem zi.calls (k : Nat) (a0_0 : Int) (a0_1 : Int) (a0_2 : Int) (a0_3 : ByteArray) (a0_4 : ByteArray) (a0_5 : ByteArray) (a0_6 : Int) (A0_7 : Option Addr) (c0_7 : Nat) (l0_7 : List (S33)) (A1 : Option Addr) (c1 : Nat) (l1 : List (S30)) (r1 : Bool) (r2 : Int) (w : World) (hr0_7 : Kd.C k33 w A0_7 l0_7.length l0_7) (hc0_7 : l0_7.length ≤ c0_7) (hr1 : Kd.C k30 w A1 l1.length l1) (hc1 : l1.length ≤ c1) (hL : LD w) (h : zi.f k a0_0 a0_1 a0_2 a0_3 a0_4 a0_5 a0_6 l0_7 l1 = some (r1, r2)) :
    Calls Tryd.prog 10 #[.agg #[.int .i64 a0_0, .int .i64 a0_1, .int .i64 a0_2, .string a0_3, .string a0_4, .string a0_5, .int .i64 a0_6, .slice A0_7 l0_7.length c0_7], .slice A1 l1.length c1] w fun x w' => x = .returned (.tuple #[.bool r1, .int .i64 r2]) ∧ Below w.heap.size w w' := by
  have huv := Tryd.underlying30
  obtain ⟨e, rfl, rfl, rfl, rfl, rfl, rfl, rfl, rfl⟩ : ∃ e : S33, a0_0 = e.f0 ∧ a0_1 = e.f1.f0 ∧ a0_2 = e.f1.f1 ∧ a0_3 = e.f1.f2 ∧ a0_4 = e.f2 ∧ a0_5 = e.f3 ∧ a0_6 = e.f4 ∧ l0_7 = e.f5 := ⟨⟨a0_0, ⟨a0_1, a0_2, a0_3⟩, a0_4, a0_5, a0_6, l0_7⟩, rfl, rfl, rfl, rfl, rfl, rfl, rfl, rfl⟩
  have HR0 := zq.mk hr0_7
  have HR1 := zq.mk hr1
  have HL := zq.mk hL
  have hm := hr0_7.2.1
  unfold zi.f at h
  by_cases hsz : 9223372036854775807 < e.f2.size + e.f3.size
  · rw [if_pos hsz] at h; cases h
  rw [if_neg hsz] at h
  have h : (if zi.none_ e then zi.of l1 k zi.yes else zi.of l1 k e) = some (r1, r2) := h
  have HH := zq.mk h
  clear h hr0_7 hr1 hL
  go_enter Tryd.func10, Tryd.ntmps10
  go_upto_region 1 with (fail)
  go_cut [6] (fun v6 wc => v6 = .bool (decide (zi.none_ e)) ∧ zq (wc = ((w.alloc (.cells #[.int .i64 e.f0, .int .i64 e.f1.f0, .int .i64 e.f1.f1, .string e.f1.f2, .string e.f2, .string e.f3, .int .i64 e.f4, .slice A0_7 e.f5.length c0_7] 33)).alloc (.cells #[.slice A1 l1.length c1] 34))))
  case first =>
    by_cases z0 : e.f0 = 0
    rotate_left
    · have hn : decide (zi.none_ e) = false := decide_eq_false (fun h_ => by unfold zi.none_ qq.zeroV at h_; exact z0 (by simp [h_]))
      go_wp2
      go_meet
      exact ⟨by rw [hn], ⟨rfl⟩⟩
    by_cases z1 : e.f1.f0 = 0
    rotate_left
    · have hn : decide (zi.none_ e) = false := decide_eq_false (fun h_ => by unfold zi.none_ qq.zeroV at h_; exact z1 (by simp [h_]))
      go_wp2
      go_meet
      exact ⟨by rw [hn], ⟨by simp only [z0]⟩⟩
    by_cases z2 : e.f1.f1 = 0
    rotate_left
    · have hn : decide (zi.none_ e) = false := decide_eq_false (fun h_ => by unfold zi.none_ qq.zeroV at h_; exact z2 (by simp [h_]))
      go_wp2
      go_meet
      exact ⟨by rw [hn], ⟨by simp only [z0, z1]⟩⟩
    by_cases z3 : e.f1.f2.toList = []
    rotate_left
    · have hn : decide (zi.none_ e) = false := decide_eq_false (fun h_ => by unfold zi.none_ qq.zeroV at h_; exact z3 (by simp [h_]))
      go_wp2
      go_meet
      exact ⟨by rw [hn], ⟨by simp only [z0, z1, z2]⟩⟩
    by_cases z4 : (e.f2 ++ e.f3).toList = []
    rotate_left
    · have dz : (e.f2 ++ e.f3).toList.isEmpty = false := by cases hq : (e.f2 ++ e.f3).toList with | nil => exact absurd hq z4 | cons _ _ => rfl
      have hn : decide (zi.none_ e) = false := decide_eq_false (fun h_ => by unfold zi.none_ qq.zeroV at h_; exact z4 (by simp [h_]))
      go_wp2
      go_meet
      exact ⟨by rw [hn], ⟨by simp only [z0, z1, z2]⟩⟩
    by_cases z5 : e.f4 = 0
    rotate_left
    · have dz : (e.f4 == 0) = false := by simpa using z5
      have hn : decide (zi.none_ e) = false := decide_eq_false (fun h_ => by unfold zi.none_ qq.zeroV at h_; exact z5 (by simp [h_]))
      go_wp2
      go_meet
      exact ⟨by rw [hn], ⟨by simp only [z0, z1, z2]⟩⟩
    by_cases z6 : e.f5.length = 0
    rotate_left
    · have dz : ((e.f5.length : Int) == 0) = false := by simpa using z6
      have hn : decide (zi.none_ e) = false := decide_eq_false (fun h_ => by unfold zi.none_ qq.zeroV at h_; exact z6 (by simp [h_]))
      go_wp2
      go_meet
      exact ⟨by rw [hn], ⟨by simp only [z0, z1, z2, z5]⟩⟩
    have hn : decide (zi.none_ e) = true := decide_eq_true ⟨z0, ⟨z1, z2, z3⟩, z4, z5, z6⟩
    have dz : ((e.f5.length : Int) == 0) = true := by simpa using z6
    go_wp2
    go_meet
    exact ⟨by rw [hn], ⟨by simp only [z0, z1, z2, z5, z6]⟩⟩
  obtain ⟨rfl, HW⟩ := hcut
  have hw := HW.out
  clear HW
  subst hw
  have h := HH.out
  clear HH
  by_cases hn : zi.none_ e
  · rw [if_pos hn] at h
    rw [decide_eq_true hn]
    have hcx : zi.yes.f5.length ≤ 0 := by decide
    have HX : zq (Kd.C k33 w none zi.yes.f5.length zi.yes.f5) := ⟨⟨rfl, by decide, fun h => absurd h (by decide)⟩⟩
    clear hn HR0
    obtain ⟨t, ht, h⟩ := Option.bind_eq_some_iff.1 h
    have HF : zq (∀ (W : World), Below w.heap.size w W → Calls Tryd.prog 26 #[.agg #[.int .i64 1, .int .i64 1, .int .i64 1, .string ⟨#[]⟩, .string ⟨#[]⟩, .string ⟨#[]⟩, .int .i64 0, .slice none 0 0], .slice A1 l1.length c1] W fun e w' => e = .returned (.int .i64 t) ∧ Below W.heap.size W w') := zq.mk (fun (W : World) (hb : Below w.heap.size w W) => zqo.calls k zi.yes.f0 zi.yes.f1.f0 zi.yes.f1.f1 zi.yes.f1.f2 zi.yes.f2 zi.yes.f3 zi.yes.f4 none 0 zi.yes.f5 A1 c1 l1 t W (Kd.zqe HX.out hb) hcx (Kd.zqe HR1.out hb) hc1 (LD.below HL.out hb) ht)
    have HBB := zq.mk (zm (zm (Below.refl w.heap.size w) (.cells #[.int .i64 1, .int .i64 1, .int .i64 1, .string ⟨#[]⟩, .string ⟨#[]⟩, .string ⟨#[]⟩, .int .i64 0, .slice none 0 0] 33)) (.cells #[.slice A1 l1.length c1] 34))
    clear ht
    by_cases z : t = 0
    · rw [if_pos z] at h
      subst z
      have HS := zq.mk h
      clear h
      go_wp2_with (first | (go_at_call 26; (with_reducible refine (za.lift (Below.refl _ _) (HF.out _ HBB.out)).mono ?_); rintro z w1 ⟨rfl, hb1⟩; have HB1 := zq.mk hb1; have HBW := zq.mk (HBB.out.trans (hb1.mono HBB.out.size)); have q1 : w.heap.size + 1 < w1.heap.size := Nat.lt_of_lt_of_le (by simp) hb1.size; have q0 : w.heap.size < w1.heap.size := Nat.lt_of_succ_lt q1; have k0 : w1.cell? ⟨w.heap.size, 0, none⟩ = some (.int .i64 1) := zp hb1 (by simp [go_sem]); have k1 : w1.cell? ⟨w.heap.size, 1, none⟩ = some (.int .i64 1) := zp hb1 (by simp [go_sem]); have k2 : w1.cell? ⟨w.heap.size, 2, none⟩ = some (.int .i64 1) := zp hb1 (by simp [go_sem]); have k3 : w1.cell? ⟨w.heap.size, 3, none⟩ = some (.string ⟨#[]⟩) := zp hb1 (by simp [go_sem]); have k4 : w1.cell? ⟨w.heap.size, 4, none⟩ = some (.string ⟨#[]⟩) := zp hb1 (by simp [go_sem]); have k5 : w1.cell? ⟨w.heap.size, 5, none⟩ = some (.string ⟨#[]⟩) := zp hb1 (by simp [go_sem]); have k6 : w1.cell? ⟨w.heap.size, 6, none⟩ = some (.int .i64 0) := zp hb1 (by simp [go_sem]); have k7 : w1.cell? ⟨w.heap.size, 7, none⟩ = some (.slice none 0 0) := zp hb1 (by simp [go_sem]); clear hb1) | (go_at_call 27; have HCJ : Calls Tryd.prog 27 #[.agg #[.int .i64 1, .int .i64 1, .int .i64 1, .string ⟨#[]⟩, .string ⟨#[]⟩, .string ⟨#[]⟩, .int .i64 0, .slice none 0 0], .int .i64 1, .func (.func 28) #[] #[.pointer (some ⟨w.heap.size + 1, 0, none⟩), .pointer (some ⟨w1.heap.size, 0, none⟩), .pointer (some ⟨w1.heap.size + 1, 0, none⟩)]] ((w1.alloc (.cells #[.bool true] 4)).alloc (.cells #[.int .i64 0] 24)) fun x w' => x = .returned (.bool r1) ∧ zi.St w A1 l1.length c1 (w.heap.size + 1) w1.heap.size (w1.heap.size + 1) r1 r2 w' ∧ zi.Fr w1.heap.size (w1.heap.size + 1) ((w1.alloc (.cells #[.bool true] 4)).alloc (.cells #[.int .i64 0] 24)) w' := zi.conj l1 k w (w.heap.size + 1) w1.heap.size (w1.heap.size + 1) ⟨by omega, by omega, by omega, by omega, by omega, by omega⟩ HL.out A1 c1 HR1.out 11 zi.yes none 0 true 0 r1 r2 _ (by omega) HX.out hcx ⟨zm (zm HBW.out _) _, zy (zy (zf (zj.new1 w _ _) HB1.out) _) _, zy (zjt w1 _) _, zj.new1 w1 _ _⟩ HS.out; (with_reducible refine HCJ.mono ?_); rintro z w2 ⟨rfl, hs, hf⟩; have HST := zq.mk hs; have m2 : w2.cell? ⟨w1.heap.size, 0, none⟩ = some (.bool r1) := (zo hs.h2 0).trans rfl; have m3 : w2.cell? ⟨w1.heap.size + 1, 0, none⟩ = some (.int .i64 r2) := (zo hs.h3 0).trans rfl; clear hs hf))
      go_quiet (fail)
      go_wp2
      go_ret2
      exact ⟨rfl, qd HST.out.lo _⟩
    · rw [if_neg z] at h
      obtain ⟨rfl, rfl⟩ : false = r1 ∧ t = r2 := by simpa using h
      have dz : (t != 0) = true := by simpa using z
      clear h z
      go_wp2_with (go_at_call 26; (with_reducible refine (za.lift (Below.refl _ _) (HF.out _ HBB.out)).mono ?_); rintro z w1 ⟨rfl, hb1⟩; have HB1 := zq.mk hb1; have HBW := zq.mk (HBB.out.trans (hb1.mono HBB.out.size)); have q1 : w.heap.size + 1 < w1.heap.size := Nat.lt_of_lt_of_le (by simp) hb1.size; have q0 : w.heap.size < w1.heap.size := Nat.lt_of_succ_lt q1; have k0 : w1.cell? ⟨w.heap.size, 0, none⟩ = some (.int .i64 1) := zp hb1 (by simp [go_sem]); have k1 : w1.cell? ⟨w.heap.size, 1, none⟩ = some (.int .i64 1) := zp hb1 (by simp [go_sem]); have k2 : w1.cell? ⟨w.heap.size, 2, none⟩ = some (.int .i64 1) := zp hb1 (by simp [go_sem]); have k3 : w1.cell? ⟨w.heap.size, 3, none⟩ = some (.string ⟨#[]⟩) := zp hb1 (by simp [go_sem]); have k4 : w1.cell? ⟨w.heap.size, 4, none⟩ = some (.string ⟨#[]⟩) := zp hb1 (by simp [go_sem]); have k5 : w1.cell? ⟨w.heap.size, 5, none⟩ = some (.string ⟨#[]⟩) := zp hb1 (by simp [go_sem]); have k6 : w1.cell? ⟨w.heap.size, 6, none⟩ = some (.int .i64 0) := zp hb1 (by simp [go_sem]); have k7 : w1.cell? ⟨w.heap.size, 7, none⟩ = some (.slice none 0 0) := zp hb1 (by simp [go_sem]); clear hb1)
      go_ret2
      exact ⟨rfl, HBW.out⟩
  · rw [if_neg hn] at h
    rw [decide_eq_false hn]
    have hcx := hc0_7
    have HX := HR0
    clear hn
    obtain ⟨t, ht, h⟩ := Option.bind_eq_some_iff.1 h
    have HF : zq (∀ (W : World), Below w.heap.size w W → Calls Tryd.prog 26 #[.agg #[.int .i64 e.f0, .int .i64 e.f1.f0, .int .i64 e.f1.f1, .string e.f1.f2, .string e.f2, .string e.f3, .int .i64 e.f4, .slice A0_7 e.f5.length c0_7], .slice A1 l1.length c1] W fun e w' => e = .returned (.int .i64 t) ∧ Below W.heap.size W w') := zq.mk (fun (W : World) (hb : Below w.heap.size w W) => zqo.calls k e.f0 e.f1.f0 e.f1.f1 e.f1.f2 e.f2 e.f3 e.f4 A0_7 c0_7 e.f5 A1 c1 l1 t W (Kd.zqe HX.out hb) hcx (Kd.zqe HR1.out hb) hc1 (LD.below HL.out hb) ht)
    have HBB := zq.mk (zm (zm (Below.refl w.heap.size w) (.cells #[.int .i64 e.f0, .int .i64 e.f1.f0, .int .i64 e.f1.f1, .string e.f1.f2, .string e.f2, .string e.f3, .int .i64 e.f4, .slice A0_7 e.f5.length c0_7] 33)) (.cells #[.slice A1 l1.length c1] 34))
    clear ht
    by_cases z : t = 0
    · rw [if_pos z] at h
      subst z
      have HS := zq.mk h
      clear h
      go_wp2_with (first | (go_at_call 26; (with_reducible refine (za.lift (Below.refl _ _) (HF.out _ HBB.out)).mono ?_); rintro z w1 ⟨rfl, hb1⟩; have HB1 := zq.mk hb1; have HBW := zq.mk (HBB.out.trans (hb1.mono HBB.out.size)); have q1 : w.heap.size + 1 < w1.heap.size := Nat.lt_of_lt_of_le (by simp) hb1.size; have q0 : w.heap.size < w1.heap.size := Nat.lt_of_succ_lt q1; have k0 : w1.cell? ⟨w.heap.size, 0, none⟩ = some (.int .i64 e.f0) := zp hb1 (by simp [go_sem]); have k1 : w1.cell? ⟨w.heap.size, 1, none⟩ = some (.int .i64 e.f1.f0) := zp hb1 (by simp [go_sem]); have k2 : w1.cell? ⟨w.heap.size, 2, none⟩ = some (.int .i64 e.f1.f1) := zp hb1 (by simp [go_sem]); have k3 : w1.cell? ⟨w.heap.size, 3, none⟩ = some (.string e.f1.f2) := zp hb1 (by simp [go_sem]); have k4 : w1.cell? ⟨w.heap.size, 4, none⟩ = some (.string e.f2) := zp hb1 (by simp [go_sem]); have k5 : w1.cell? ⟨w.heap.size, 5, none⟩ = some (.string e.f3) := zp hb1 (by simp [go_sem]); have k6 : w1.cell? ⟨w.heap.size, 6, none⟩ = some (.int .i64 e.f4) := zp hb1 (by simp [go_sem]); have k7 : w1.cell? ⟨w.heap.size, 7, none⟩ = some (.slice A0_7 e.f5.length c0_7) := zp hb1 (by simp [go_sem]); clear hb1) | (go_at_call 27; have HCJ : Calls Tryd.prog 27 #[.agg #[.int .i64 e.f0, .int .i64 e.f1.f0, .int .i64 e.f1.f1, .string e.f1.f2, .string e.f2, .string e.f3, .int .i64 e.f4, .slice A0_7 e.f5.length c0_7], .int .i64 1, .func (.func 28) #[] #[.pointer (some ⟨w.heap.size + 1, 0, none⟩), .pointer (some ⟨w1.heap.size, 0, none⟩), .pointer (some ⟨w1.heap.size + 1, 0, none⟩)]] ((w1.alloc (.cells #[.bool true] 4)).alloc (.cells #[.int .i64 0] 24)) fun x w' => x = .returned (.bool r1) ∧ zi.St w A1 l1.length c1 (w.heap.size + 1) w1.heap.size (w1.heap.size + 1) r1 r2 w' ∧ zi.Fr w1.heap.size (w1.heap.size + 1) ((w1.alloc (.cells #[.bool true] 4)).alloc (.cells #[.int .i64 0] 24)) w' := zi.conj l1 k w (w.heap.size + 1) w1.heap.size (w1.heap.size + 1) ⟨by omega, by omega, by omega, by omega, by omega, by omega⟩ HL.out A1 c1 HR1.out 11 e A0_7 c0_7 true 0 r1 r2 _ (by omega) HX.out hcx ⟨zm (zm HBW.out _) _, zy (zy (zf (zj.new1 w _ _) HB1.out) _) _, zy (zjt w1 _) _, zj.new1 w1 _ _⟩ HS.out; (with_reducible refine HCJ.mono ?_); rintro z w2 ⟨rfl, hs, hf⟩; have HST := zq.mk hs; have m2 : w2.cell? ⟨w1.heap.size, 0, none⟩ = some (.bool r1) := (zo hs.h2 0).trans rfl; have m3 : w2.cell? ⟨w1.heap.size + 1, 0, none⟩ = some (.int .i64 r2) := (zo hs.h3 0).trans rfl; clear hs hf))
      go_quiet (fail)
      go_wp2
      go_ret2
      exact ⟨rfl, qd HST.out.lo _⟩
    · rw [if_neg z] at h
      obtain ⟨rfl, rfl⟩ : false = r1 ∧ t = r2 := by simpa using h
      have dz : (t != 0) = true := by simpa using z
      clear h z
      go_wp2_with (go_at_call 26; (with_reducible refine (za.lift (Below.refl _ _) (HF.out _ HBB.out)).mono ?_); rintro z w1 ⟨rfl, hb1⟩; have HB1 := zq.mk hb1; have HBW := zq.mk (HBB.out.trans (hb1.mono HBB.out.size)); have q1 : w.heap.size + 1 < w1.heap.size := Nat.lt_of_lt_of_le (by simp) hb1.size; have q0 : w.heap.size < w1.heap.size := Nat.lt_of_succ_lt q1; have k0 : w1.cell? ⟨w.heap.size, 0, none⟩ = some (.int .i64 e.f0) := zp hb1 (by simp [go_sem]); have k1 : w1.cell? ⟨w.heap.size, 1, none⟩ = some (.int .i64 e.f1.f0) := zp hb1 (by simp [go_sem]); have k2 : w1.cell? ⟨w.heap.size, 2, none⟩ = some (.int .i64 e.f1.f1) := zp hb1 (by simp [go_sem]); have k3 : w1.cell? ⟨w.heap.size, 3, none⟩ = some (.string e.f1.f2) := zp hb1 (by simp [go_sem]); have k4 : w1.cell? ⟨w.heap.size, 4, none⟩ = some (.string e.f2) := zp hb1 (by simp [go_sem]); have k5 : w1.cell? ⟨w.heap.size, 5, none⟩ = some (.string e.f3) := zp hb1 (by simp [go_sem]); have k6 : w1.cell? ⟨w.heap.size, 6, none⟩ = some (.int .i64 e.f4) := zp hb1 (by simp [go_sem]); have k7 : w1.cell? ⟨w.heap.size, 7, none⟩ = some (.slice A0_7 e.f5.length c0_7) := zp hb1 (by simp [go_sem]); clear hb1)
      go_ret2
      exact ⟨rfl, HBW.out⟩

end Go.Proofs.YtmfpaeajibeikaaDoor.PEvalHolds
