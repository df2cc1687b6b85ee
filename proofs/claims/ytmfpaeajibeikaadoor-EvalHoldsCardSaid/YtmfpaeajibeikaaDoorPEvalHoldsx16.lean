-- Written by wip/pp of this repo (over the kit's print, with additions of this session); Lean checks every line.
import Derived.Test.YtmfpaeajibeikaaDoorPEvalHoldsx6
import Derived.Test.YtmfpaeajibeikaaDoorPEvalHoldsx12
import Derived.Test.YtmfpaeajibeikaaDoorPEvalHoldsx14
import Derived.Test.YtmfpaeajibeikaaDoorPEvalHoldsx15
namespace Go.Proofs.YtmfpaeajibeikaaDoor.PEvalHolds
open Go.RowKit Go.Proofs.YtmfpaeajibeikaaDoorW.PrintWords Go.Proofs.YtmfpaeajibeikaaDoorW.PrintLast Go.Proofs.YtmfpaeajibeikaaDoorW.PrintMore
attribute [local go_sem] zje zjc zjo zjn zq1 zq0 zjd zjb   -- for this text's walks alone
set_option linter.unusedVariables false
set_option linter.unusedSimpArgs false

/-! ### zz: function 52, by hand -/
-- HAND rounds=1 making=1 after=98 after=46 after=89 imports=Derived.Deep.QuietTactic,Derived.BigQuiet,Derived.Deep.RegionHeld3,Derived.Deep.RegionWith
abbrev zz.R:=Option (Int × Int × ByteArray × Int)
def zz.no (c:Int):zz.R:=some (0,0,⟨#[]⟩,c)
def zz.tv (p:Int × Int):zz.R:=zqj.f p.1 p.2
def zz.nb (p:Int × Int):zz.R:=zqf.f p.1 p.2
def zz.two (k:Nat) (o:Int) (a b:S30):zz.R:=
 if 13≤o then(ze.f k o a.f0 a.f1 a.f2 b.f0 b.f1 b.f2).bind zz.tv else
  (qp.f k a.f0 a.f1 a.f2 b.f0 b.f1 b.f2).bind fun q=>if q.1=false then zz.no 12 else if q.2=true then zz.no 0 else
   if o=8 then(zjk.f a.f1 b.f1).bind zz.nb else if o=9 then(zji.f a.f1 b.f1).bind zz.nb else if o=10 then(zjg.f a.f1 b.f1).bind zz.nb else
   if o=11 then(zq6.f a.f1 b.f1).bind zz.nb else (zjh.f a.f1 b.f1).bind zz.nb
def zz.one (k:Nat) (f:S33→zz.R) (o:Int) (a:S30) (r:List S33):zz.R:=
 if o=19∨o=20 then(qw.f k a.f0 a.f1 a.f2).bind fun s=>if s.2=0 then
   (if o=19∧s.1=0∨o=20∧s.1=2 then zqr.f s.1 else match r with
    | []=>none
    | y :: _=>(f y).bind fun p=>if p.2.2.2=0 then(qw.f k p.1 p.2.1 p.2.2.1).bind fun t=>if t.2=0 then(if o=19 then qt.f [s.1,t.1] else qr.f [s.1,t.1]).bind zz.tv else zz.no t.2 else zz.no p.2.2.2)
  else zz.no s.2
 else if o=6 then(zq3.f (a.f0 == 0)).bind fun b=>some (1,b,⟨#[]⟩,0)
 else if o=7 then(zq3.f (a.f0 != 0)).bind fun b=>some (1,b,⟨#[]⟩,0)
 else if o=5 then(qw.f k a.f0 a.f1 a.f2).bind fun s=>if s.2=0 then(zja.f s.1).bind zz.tv else zz.no s.2
 else if o=4 then(qp.f k a.f0 a.f1 a.f2 a.f0 a.f1 a.f2).bind fun q=>if q.1=false then zz.no 12 else if q.2=true then zz.no 0 else (zjj.f a.f1).bind zz.nb
 else match r with
  | []=>none
  | y :: _=>(f y).bind fun p=>if p.2.2.2=0 then zz.two k o a ⟨p.1,p.2.1,p.2.2.1⟩ else zz.no p.2.2.2
def zz.cm (row:List S30) (k:Nat):Nat→S33→zz.R
 | 0,_=>none
 | n+1,e=>if e.f0=1 then some (e.f1.f0,e.f1.f1,e.f1.f2,0) else if e.f0=3 then(if 0≤e.f4∧e.f4<row.length then some ((zqh row e.f4).f0,(zqh row e.f4).f1,(zqh row e.f4).f2,0) else none) else
   match e.f5 with
   | []=>none
   | x :: r=>(zz.cm row k n x).bind fun p=>if p.2.2.2=0 then zz.one k (zz.cm row k n) e.f0 ⟨p.1,p.2.1,p.2.2.1⟩ r else zz.no p.2.2.2
def zz.expr (a0 a1 a2:Int) (a3 a4 a5:ByteArray) (a6:Int) (l7:List S33):S33:=⟨a0,⟨a1,a2,a3⟩,a4,a5,a6,l7⟩
def zz.f (k:Nat) (a0_0:Int) (a0_1:Int) (a0_2:Int) (a0_3:ByteArray) (a0_4:ByteArray) (a0_5:ByteArray) (a0_6:Int) (l0_7:List S33) (l1:List S30):Option (Int × Int × ByteArray × Int):=zz.cm l1 k 12 (zz.expr a0_0 a0_1 a0_2 a0_3 a0_4 a0_5 a0_6 l0_7)
theorem zz.mono_two (k:Nat) (o:Int) (a b:S30):LeO (zz.two k o a b) (zz.two (k+1) o a b):=by
 unfold zz.two
 exact LeO.ite (LeO.bind (ze.mono _ _ _ _ _ _ _ _) (fun _=>LeO.refl _)) (LeO.bind (qp.mono _ _ _ _ _ _ _) (fun _=>LeO.refl _))
theorem zz.zkb (k:Nat) {f g:S33→zz.R} (h:∀ x,LeO (f x) (g x)) (o:Int) (a:S30) (r:List S33):LeO (zz.one k f o a r) (zz.one (k+1) g o a r):=by
 unfold zz.one
 refine LeO.ite (LeO.bind (qw.mono _ _ _ _) (fun s=>LeO.ite (LeO.ite (LeO.refl _) ?_) (LeO.refl _))) ?_
 ·cases r with
  | nil=>exact LeO.refl _
  | cons y l=>exact LeO.bind (h y) (fun p=>LeO.ite (LeO.bind (qw.mono _ _ _ _) (fun t=>LeO.refl _)) (LeO.refl _))
 refine LeO.ite (LeO.refl _) (LeO.ite (LeO.refl _) (LeO.ite (LeO.bind (qw.mono _ _ _ _) (fun s=>LeO.refl _)) (LeO.ite (LeO.bind (qp.mono _ _ _ _ _ _ _) (fun _=>LeO.refl _)) ?_)))
 cases r with
 | nil=>exact LeO.refl _
 | cons y l=>exact LeO.bind (h y) (fun p=>LeO.ite (zz.mono_two _ _ _ _) (LeO.refl _))
theorem zz.mono_cm (row:List S30) (k:Nat):∀ n e,LeO (zz.cm row k n e) (zz.cm row (k+1) n e)
 | 0,_=>LeO.refl _
 | n+1,e=>by
  unfold zz.cm
  refine LeO.ite (LeO.refl _) (LeO.ite (LeO.refl _) ?_)
  cases e.f5 with
  | nil=>exact LeO.refl _
  | cons x r=>exact LeO.bind (zz.mono_cm row k n x) (fun p=>LeO.ite (zz.zkb k (zz.mono_cm row k n) _ _ _) (LeO.refl _))
theorem zz.mono:∀ a0 a1 a2 a3 a4 a5 a6 a7 a8 k,LeO (zz.f k a0 a1 a2 a3 a4 a5 a6 a7 a8) (zz.f (k+1) a0 a1 a2 a3 a4 a5 a6 a7 a8):=fun _ _ _ _ _ _ _ _ _ k=>zz.mono_cm _ k _ _
abbrev zz.w0 (e:S33) (A7:Option Addr) (c7:Nat) (w:World):World:=(w.alloc (.cells #[.int .i64 e.f0,.int .i64 e.f1.f0,.int .i64 e.f1.f1,.string e.f1.f2,.string e.f2,.string e.f3,.int .i64 e.f4,.slice A7 e.f5.length c7] 33)).alloc (.cells #[.int .i64 0,.int .i64 0,.string ⟨#[]⟩] 30)
structure zz.Kp (e:S33) (A7:Option Addr) (c7:Nat) (w W:World):Prop where mk :: (c0:W.cell? ⟨w.heap.size,0,none⟩=some (.int .i64 e.f0)) (c1:W.cell? ⟨w.heap.size,1,none⟩=some (.int .i64 e.f1.f0)) (c2:W.cell? ⟨w.heap.size,2,none⟩=some (.int .i64 e.f1.f1)) (c3:W.cell? ⟨w.heap.size,3,none⟩=some (.string e.f1.f2)) (c4:W.cell? ⟨w.heap.size,4,none⟩=some (.string e.f2)) (c5:W.cell? ⟨w.heap.size,5,none⟩=some (.string e.f3)) (c6:W.cell? ⟨w.heap.size,6,none⟩=some (.int .i64 e.f4)) (c7:W.cell? ⟨w.heap.size,7,none⟩=some (.slice A7 e.f5.length c7)) (c8:W.cell? ⟨w.heap.size+1,0,none⟩=some (.int .i64 0)) (c9:W.cell? ⟨w.heap.size+1,1,none⟩=some (.int .i64 0)) (c10:W.cell? ⟨w.heap.size+1,2,none⟩=some (.string ⟨#[]⟩)) (c11:W.frozen? ⟨w.heap.size+1,0,none⟩=false) (c12:W.frozen? ⟨w.heap.size+1,1,none⟩=false) (c13:W.frozen? ⟨w.heap.size+1,2,none⟩=false) (c14:w.heap.size<W.heap.size) (c15:w.heap.size+1<W.heap.size)
theorem zz.zq7 {e:S33} {A7:Option Addr} {c7:Nat} {w:World} : (zz.w0 e A7 c7 w).heap.size=w.heap.size+1+1:=by simp [zz.w0]
theorem zz.hz {e:S33} {A7:Option Addr} {c7:Nat} {w W:World} (hb:Below (zz.w0 e A7 c7 w).heap.size (zz.w0 e A7 c7 w) W):W.heap[w.heap.size+1]? = some (.cells #[.int .i64 0,.int .i64 0,.string ⟨#[]⟩] 30 (0,0)):=by
 have q_:(w.alloc (.cells #[.int .i64 e.f0,.int .i64 e.f1.f0,.int .i64 e.f1.f1,.string e.f1.f2,.string e.f2,.string e.f3,.int .i64 e.f4,.slice A7 e.f5.length c7] 33)).heap.size=w.heap.size+1:=by simp
 have h:=zjt (w.alloc (.cells #[.int .i64 e.f0,.int .i64 e.f1.f0,.int .i64 e.f1.f1,.string e.f1.f2,.string e.f2,.string e.f3,.int .i64 e.f4,.slice A7 e.f5.length c7] 33)) (.cells #[.int .i64 0,.int .i64 0,.string ⟨#[]⟩] 30)
 rw [q_] at h
 exact zf h hb
theorem zz.hr {e:S33} {A7:Option Addr} {c7:Nat} {w W:World} (hb:Below (zz.w0 e A7 c7 w).heap.size (zz.w0 e A7 c7 w) W):Below w.heap.size w W:=by
 have h0:Below w.heap.size w (zz.w0 e A7 c7 w):=zm (zm (Below.refl _ _) _) _
 exact h0.trans (hb.mono h0.size)
theorem zz.kp {e:S33} {A7:Option Addr} {c7:Nat} {w W:World} (hb:Below (zz.w0 e A7 c7 w).heap.size (zz.w0 e A7 c7 w) W):zz.Kp e A7 c7 w W:=by
 have hs:=hb.size
 rw [zz.zq7] at hs
 exact⟨zp hb (by simp [go_sem]),zp hb (by simp [go_sem]),zp hb (by simp [go_sem]),zp hb (by simp [go_sem]),zp hb (by simp [go_sem]),zp hb (by simp [go_sem]),zp hb (by simp [go_sem]),zp hb (by simp [go_sem]),zp hb (by simp [go_sem]),zp hb (by simp [go_sem]),zp hb (by simp [go_sem]),qy (zz.hz hb) 0,qy (zz.hz hb) 1,qy (zz.hz hb) 2,by omega,by omega⟩
set_option maxRecDepth 100000 in
set_option maxHeartbeats 8000000 in
theorem zz.const (row:List S30) (k:Nat) (A1:Option Addr) (c1:Nat) (e:S33) (A7:Option Addr) (c7:Nat) (r1 r2:Int) (r3:ByteArray) (r4:Int) (w:World) (hr:Kd.C k33 w A7 e.f5.length e.f5) (hrow:Kd.C k30 w A1 row.length row) (h1:e.f0=1) :
  Calls Tryd.prog 52 #[.agg #[.int .i64 e.f0,.int .i64 e.f1.f0,.int .i64 e.f1.f1,.string e.f1.f2,.string e.f2,.string e.f3,.int .i64 e.f4,.slice A7 e.f5.length c7],.slice A1 row.length c1] w fun z w'=>z = .returned (.tuple #[.agg #[.int .i64 e.f1.f0,.int .i64 e.f1.f1,.string e.f1.f2],.int .i64 0])∧Below w.heap.size w w':=by
 have huv:=Tryd.underlying30
 have d1:(e.f0 == 1)=true:=by simpa using h1
 have HZ:=zq.mk (zz.hz (Below.refl (zz.w0 e A7 c7 w).heap.size (zz.w0 e A7 c7 w)))
 clear h1
 go_enter Tryd.func52,Tryd.ntmps52
 go_wp2
 have HVX:=zj.new1 w (.cells #[.int .i64 e.f0,.int .i64 e.f1.f0,.int .i64 e.f1.f1,.string e.f1.f2,.string e.f2,.string e.f3,.int .i64 e.f4,.slice A7 e.f5.length c7] 33) (.cells #[.int .i64 e.f1.f0,.int .i64 e.f1.f1,.string e.f1.f2] 30)
 refine bodyPost_ret (qm (rs := [.cell 4 30,.tmp 5]) rfl (by simp) (.cell (w.heap.size+1) 30 _ (0,0) _ rfl HVX huv rfl (by kernel_rfl) (.tmp .nil))) rfl ?_
 exact⟨rfl,zm (zm (Below.refl _ _) _) _⟩
set_option maxRecDepth 100000 in
set_option maxHeartbeats 8000000 in
theorem zz.place (row:List S30) (k:Nat) (A1:Option Addr) (c1:Nat) (e:S33) (A7:Option Addr) (c7:Nat) (r1 r2:Int) (r3:ByteArray) (r4:Int) (w:World) (hr:Kd.C k33 w A7 e.f5.length e.f5) (hrow:Kd.C k30 w A1 row.length row) (h3:e.f0=3) (h0:0≤e.f4) (h1:e.f4<row.length) :
  Calls Tryd.prog 52 #[.agg #[.int .i64 e.f0,.int .i64 e.f1.f0,.int .i64 e.f1.f1,.string e.f1.f2,.string e.f2,.string e.f3,.int .i64 e.f4,.slice A7 e.f5.length c7],.slice A1 row.length c1] w fun z w'=>z = .returned (.tuple #[.agg #[.int .i64 (zqh row e.f4).f0,.int .i64 (zqh row e.f4).f1,.string (zqh row e.f4).f2],.int .i64 0])∧Below w.heap.size w w':=by
 have huv:=Tryd.underlying30
 have d1:(e.f0 == 1)=false:=by simp [h3]
 have d3:(e.f0 == 3)=true:=by simpa using h3
 obtain ⟨b,o,rfl,c0,c1,c2⟩:=zj.vat hrow e.f4 h0 h1
 have hbl:b<w.heap.size:=World.block_lt_of_cell? w _ c0
 have hm:=hrow.2.1
 obtain ⟨i,hi⟩:∃ i:Nat,e.f4=i:=⟨e.f4.toNat,by omega⟩
 generalize zqh row e.f4=x at *
 rw [hi,Int.toNat_natCast] at c0 c1 c2
 have hil:i<row.length:=by omega
 obtain ⟨e0,e1,e2,e3,e4,e5⟩:=e
 dsimp only at *
 subst hi
 clear h3 hrow h0 h1 hr
 go_enter Tryd.func52,Tryd.ntmps52
 go_wp2
 have HVX:=zj.new1 w (.cells #[.int .i64 e0,.int .i64 e1.f0,.int .i64 e1.f1,.string e1.f2,.string e2,.string e3,.int .i64 i,.slice A7 e5.length c7] 33) (.cells #[.int .i64 x.f0,.int .i64 x.f1,.string x.f2] 30)
 refine bodyPost_ret (qm (rs := [.cell 4 30,.tmp 5]) rfl (by simp) (.cell (w.heap.size+1) 30 _ (0,0) _ rfl HVX huv rfl (by kernel_rfl) (.tmp .nil))) rfl ?_
 exact⟨rfl,zm (zm (Below.refl _ _) _) _⟩
set_option maxRecDepth 100000 in
set_option maxHeartbeats 8000000 in
theorem zz.deep (row:List S30) (k:Nat) (A1:Option Addr) (c1:Nat) (e:S33) (A7:Option Addr) (c7:Nat) (r1 r2:Int) (r3:ByteArray) (r4:Int) (w:World) (hr:Kd.C k33 w A7 e.f5.length e.f5) (hrow:Kd.C k30 w A1 row.length row) (f:S33→zz.R) (hi:∀ (x:S33) (A8:Option Addr) (c8:Nat) (q1 q2:Int) (q3:ByteArray) (q4:Int) (W:World),Kd.C k33 W A8 x.f5.length x.f5→x.f5.length≤c8→Kd.C k30 W A1 row.length row→f x=some (q1,q2,q3,q4)→Calls Tryd.prog 52 #[.agg #[.int .i64 x.f0,.int .i64 x.f1.f0,.int .i64 x.f1.f1,.string x.f1.f2,.string x.f2,.string x.f3,.int .i64 x.f4,.slice A8 x.f5.length c8],.slice A1 row.length c1] W fun e w'=>e = .returned (.tuple #[.agg #[.int .i64 q1,.int .i64 q2,.string q3],.int .i64 q4])∧Below W.heap.size W w') (hc:e.f5.length≤c7) (h1:e.f0≠1) (h3:e.f0≠3) (x:S33) (r:List S33) (hx:e.f5=x :: r) (q1 q2:Int) (q3:ByteArray) (q4:Int) (hq:f x=some (q1,q2,q3,q4)) (h:(if q4=0 then zz.one k f e.f0 ⟨q1,q2,q3⟩ r else zz.no q4)=some (r1,r2,r3,r4)) :
  Calls Tryd.prog 52 #[.agg #[.int .i64 e.f0,.int .i64 e.f1.f0,.int .i64 e.f1.f1,.string e.f1.f2,.string e.f2,.string e.f3,.int .i64 e.f4,.slice A7 e.f5.length c7],.slice A1 row.length c1] w fun z w'=>z = .returned (.tuple #[.agg #[.int .i64 r1,.int .i64 r2,.string r3],.int .i64 r4])∧Below w.heap.size w w':=by
 have huv:=Tryd.underlying30
 have HI:=zq.mk hi
 have HRR:=zq.mk hr
 have HRW:=zq.mk hrow
 have d1:(e.f0 == 1)=false:=by simpa using h1
 have d3:(e.f0 == 3)=false:=by simpa using h3
 have hl0:0<e.f5.length:=by rw [hx];simp
 have hm:=hr.2.1
 obtain ⟨bb,oo,rfl,hcs⟩:=qq.at_ hr hl0
 obtain ⟨A8,c8,p0,p1,p2,p3,p4,p5,p6,p7,l8,r8⟩:=hcs 0 hl0
 have hx0:e.f5[0]=x:=by simp [hx]
 rw [hx0] at p0 p1 p2 p3 p4 p5 p6 p7 l8 r8
 simp only [Nat.zero_mul,Nat.add_zero] at p0 p1 p2 p3 p4 p5 p6 p7
 have hbb:bb<w.heap.size:=World.block_lt_of_cell? w _ p0
 have HCA:=zq.mk (fun (W:World) (hb:Below (zz.w0 e (some ⟨bb,oo,none⟩) c7 w).heap.size (zz.w0 e (some ⟨bb,oo,none⟩) c7 w) W)=>hi x A8 c8 q1 q2 q3 q4 W (Kd.zqe r8 (zz.hr hb)) l8 (Kd.zqe hrow (zz.hr hb)) hq)
 have HX:=zq.mk hx
 clear hi hr hrow h1 h3 hcs r8 hq hx hx0
 go_enter Tryd.func52,Tryd.ntmps52
 go_upto_region 5 with (fail)
 go_cut [6,7] (fun v6 v7 wc => ∃ (g6:Nat),v6 = .pointer (some ⟨g6,0,none⟩)∧v7 = .int .i64 q4∧zq (Below (zz.w0 e (some ⟨bb,oo,none⟩) c7 w).heap.size (zz.w0 e (some ⟨bb,oo,none⟩) c7 w) wc)∧zq (wc.heap[g6]? = some (.cells #[.int .i64 q1,.int .i64 q2,.string q3] 30)))
 case first=>
  go_wp2_with (go_at_call 52;(with_reducible refine(za.lift (W0:=zz.w0 e (some ⟨bb,oo,none⟩) c7 w) (Below.refl _ _) (HCA.out _ (Below.refl _ _))).mono ?_);rintro z w1 ⟨rfl,hb1⟩;have HB1:=zq.mk hb1;cases zz.kp hb1;clear hb1)
  go_meet
  exact⟨_,rfl,rfl,⟨zm HB1.out _⟩,⟨zjt _ _⟩⟩
 clear HCA p0 p1 p2 p3 p4 p5 p6 p7
 obtain ⟨g6,rfl,rfl,HB,MA0⟩:=hcut
 cases zz.kp HB.out
 by_cases z:q4=0
 rotate_left
 ·rw [if_neg z] at h
  obtain ⟨rfl,rfl,rfl,rfl⟩:0=r1∧0=r2∧(⟨#[]⟩:ByteArray)=r3∧q4=r4:=by simpa [zz.no] using h
  have dz:(q4 != 0)=true:=by simpa using z
  clear h z
  go_wp2
  have HVX:=(zl (zl (zl (zz.hz (HB.out)) 0 (.int .i64 0) rfl) 1 (.int .i64 0) rfl) 2 (.string ⟨#[]⟩) rfl)
  refine bodyPost_ret (qm (rs := [.cell 4 30,.tmp 5]) rfl (by simp) (.cell (w.heap.size+1) 30 _ (0,0) _ rfl HVX huv rfl (by kernel_rfl) (.tmp .nil))) rfl ?_
  exact⟨rfl,(((zz.hr (HB.out)).setCell (p:=⟨w.heap.size+1,0,none⟩) (by simp <;> omega) _).setCell (p:=⟨w.heap.size+1,1,none⟩) (by simp <;> omega) _).setCell (p:=⟨w.heap.size+1,2,none⟩) (by simp <;> omega) _⟩
 rw [if_pos z] at h
 subst z
 have HS:=zq.mk h
 clear h
 obtain ⟨a,ha⟩:∃ a:S30,a=⟨q1,q2,q3⟩:=⟨_,rfl⟩
 obtain ⟨rfl,rfl,rfl⟩:a.f0=q1∧a.f1=q2∧a.f2=q3:=by rw [ha];exact⟨rfl,rfl,rfl⟩
 have hs:zz.one k f e.f0 a r=some (r1,r2,r3,r4):=HS.out
 clear HS ha
 unfold zz.one at hs
 have lA:=qf MA0.out
 have a0:wc.cell? ⟨g6,0,none⟩=some (.int .i64 a.f0):=(zo MA0.out 0).trans rfl
 have a1:wc.cell? ⟨g6,1,none⟩=some (.int .i64 a.f1):=(zo MA0.out 1).trans rfl
 have a2:wc.cell? ⟨g6,2,none⟩=some (.string a.f2):=(zo MA0.out 2).trans rfl
 by_cases o19:e.f0=19
 ·rw [if_pos (by omega)] at hs
  obtain ⟨⟨u,v⟩,ht,hs_⟩:=Option.bind_eq_some_iff.1 hs
  clear hs
  try dsimp only at hs_
  have hs:=hs_
  have HT:=zq.mk ht
  clear ht hs_
  have d19:(e.f0 == 19)=true:=by simpa using o19
  have d20:(e.f0 == 20)=false:=by simp [o19]
  by_cases z:v=0
  rotate_left
  ·rw [if_neg z] at hs
   obtain ⟨rfl,rfl,rfl,rfl⟩:0=r1∧0=r2∧(⟨#[]⟩:ByteArray)=r3∧v=r4:=by simpa [zz.no] using hs
   have dz:(v != 0)=true:=by simpa using z
   clear hs z o19
   as_aux_lemma=>
    go_wp2_with (go_at_call 53;(with_reducible refine(qw.calls k _ _ _ _ _ _ HT.out).mono ?_);rintro z w2 ⟨rfl,hb2⟩;have HB2:=zq.mk ((HB.out).trans (hb2.mono (zv (HB.out))));clear hb2;cases zz.kp HB2.out)
    have HVX:=(zl (zl (zl (zz.hz (HB2.out)) 0 (.int .i64 0) rfl) 1 (.int .i64 0) rfl) 2 (.string ⟨#[]⟩) rfl)
    refine bodyPost_ret (qm (rs := [.cell 4 30,.tmp 5]) rfl (by simp) (.cell (w.heap.size+1) 30 _ (0,0) _ rfl HVX huv rfl (by kernel_rfl) (.tmp .nil))) rfl ?_
    exact⟨rfl,(((zz.hr (HB2.out)).setCell (p:=⟨w.heap.size+1,0,none⟩) (by simp <;> omega) _).setCell (p:=⟨w.heap.size+1,1,none⟩) (by simp <;> omega) _).setCell (p:=⟨w.heap.size+1,2,none⟩) (by simp <;> omega) _⟩
  rw [if_pos z] at hs
  subst z
  by_cases y:u=0
  ·rw [if_pos (by omega)] at hs
   have dy:(u == 0)=true:=by simpa using y
   have HO:=zq.mk hs
   clear hs y o19
   as_aux_lemma=>
    go_wp2_with (first|(go_at_call 53;(with_reducible refine(qw.calls k _ _ _ _ _ _ HT.out).mono ?_);rintro z w2 ⟨rfl,hb2⟩;have HB2:=zq.mk ((HB.out).trans (hb2.mono (zv (HB.out))));clear hb2;cases zz.kp HB2.out)|(go_at_call 68;(with_reducible refine(zqr.calls _ r1 r2 r3 r4 _ HO.out).mono ?_);rintro z w3 ⟨rfl,hb3⟩;have HB3:=zq.mk ((HB2.out).trans (hb3.mono (zv (HB2.out))));clear hb3;cases zz.kp HB3.out))
    have HVX:=(zl (zl (zl (zz.hz (HB3.out)) 0 (.int .i64 r1) rfl) 1 (.int .i64 r2) rfl) 2 (.string r3) rfl)
    refine bodyPost_ret (qm (rs := [.cell 4 30,.tmp 5]) rfl (by simp) (.cell (w.heap.size+1) 30 _ (0,0) _ rfl HVX huv rfl (by kernel_rfl) (.tmp .nil))) rfl ?_
    exact⟨rfl,(((zz.hr (HB3.out)).setCell (p:=⟨w.heap.size+1,0,none⟩) (by simp <;> omega) _).setCell (p:=⟨w.heap.size+1,1,none⟩) (by simp <;> omega) _).setCell (p:=⟨w.heap.size+1,2,none⟩) (by simp <;> omega) _⟩
  rw [if_neg (by omega)] at hs
  have dy:(u == 0)=false:=by simpa using y
  have O19:=zq.mk o19
  cases r with
  | nil=>cases hs
  | cons y l=>
   have hl1:1<e.f5.length:=by rw [HX.out];simp
   have hy0:e.f5[1]=y:=by simp [HX.out]
   obtain ⟨bb_,oo_,eA,hcs⟩:=qq.at_ (Kd.zqe HRR.out (zz.hr HB.out)) (by omega)
   cases eA
   obtain ⟨A9,c9,p0,p1,p2,p3,p4,p5,p6,p7,l9,r9⟩:=hcs 1 hl1
   rw [hy0] at p0 p1 p2 p3 p4 p5 p6 p7 l9 r9
   simp only [Nat.one_mul] at p0 p1 p2 p3 p4 p5 p6 p7
   obtain ⟨⟨s1,s2,s3,s4⟩,ht,hs_⟩:=Option.bind_eq_some_iff.1 hs
   clear hs
   try dsimp only at hs_
   have hs:=hs_
   have HQ:=zq.mk ht
   clear ht hs_
   have hbo:bb<wc.heap.size:=World.block_lt_of_cell? wc _ p0
   have HCY:=zq.mk (fun (W:World) (hb:Below wc.heap.size wc W)=>HI.out y A9 c9 s1 s2 s3 s4 W (Kd.zqe r9 hb) l9 (Kd.zqe (Kd.zqe HRW.out (zz.hr HB.out)) hb) HQ.out)
   have HP:=zq.mk (fun (W:World) (hb:Below wc.heap.size wc W)=>(⟨zp hb p0,zp hb p1,zp hb p2,zp hb p3,zp hb p4,zp hb p5,zp hb p6,zp hb p7,Nat.lt_of_lt_of_le hbo hb.size⟩:W.cell? ⟨bb,oo+8,none⟩=some (.int .i64 y.f0)∧W.cell? ⟨bb,oo+8+1,none⟩=some (.int .i64 y.f1.f0)∧W.cell? ⟨bb,oo+8+2,none⟩=some (.int .i64 y.f1.f1)∧W.cell? ⟨bb,oo+8+3,none⟩=some (.string y.f1.f2)∧W.cell? ⟨bb,oo+8+4,none⟩=some (.string y.f2)∧W.cell? ⟨bb,oo+8+5,none⟩=some (.string y.f3)∧W.cell? ⟨bb,oo+8+6,none⟩=some (.int .i64 y.f4)∧W.cell? ⟨bb,oo+8+7,none⟩=some (.slice A9 y.f5.length c9)∧bb<W.heap.size))
   clear r9 hcs p0 p1 p2 p3 p4 p5 p6 p7 hy0 HQ o19 hbo
   by_cases z:s4=0
   rotate_left
   ·rw [if_neg z] at hs
    obtain ⟨rfl,rfl,rfl,rfl⟩:0=r1∧0=r2∧(⟨#[]⟩:ByteArray)=r3∧s4=r4:=by simpa [zz.no] using hs
    have dz:(s4 != 0)=true:=by simpa using z
    clear hs z
    as_aux_lemma=>
     go_wp2_with (first|(go_at_call 53;(with_reducible refine(qw.calls k _ _ _ u _ _ HT.out).mono ?_);rintro z w2 ⟨rfl,hb2⟩;have HD2:=zq.mk (hb2.mono (Nat.le_refl _));have HB2:=zq.mk (HB.out.trans (hb2.mono HB.out.size));clear hb2;cases zz.kp HB2.out;obtain ⟨x0,x1,x2,x3,x4,x5,x6,x7,x8⟩:=HP.out _ HD2.out)|(go_at_call 52;(with_reducible refine(za.lift (W0:=wc) HD2.out (HCY.out _ HD2.out)).mono ?_);rintro z w3 ⟨rfl,hb3⟩;have HB3:=zq.mk (HB.out.trans (hb3.mono HB.out.size));clear hb3;cases zz.kp HB3.out))
     have HVX:=zy (zl (zl (zl (zz.hz HB3.out) 0 (.int .i64 0) rfl) 1 (.int .i64 0) rfl) 2 (.string ⟨#[]⟩) rfl) (.cells #[.int .i64 s1,.int .i64 s2,.string s3] 30)
     refine bodyPost_ret (qm (rs := [.cell 4 30,.tmp 5]) rfl (by simp) (.cell (w.heap.size+1) 30 _ (0,0) _ rfl HVX huv rfl (by kernel_rfl) (.tmp .nil))) rfl ?_
     exact⟨rfl,zm ((((zz.hr HB3.out).setCell (p:=⟨w.heap.size+1,0,none⟩) (by simp) _).setCell (p:=⟨w.heap.size+1,1,none⟩) (by simp) _).setCell (p:=⟨w.heap.size+1,2,none⟩) (by simp) _) _⟩
   rw [if_pos z] at hs
   subst z
   obtain ⟨⟨p,q⟩,ht,hs_⟩:=Option.bind_eq_some_iff.1 hs
   clear hs
   try dsimp only at hs_
   have hs:=hs_
   have HT2:=zq.mk ht
   clear ht hs_
   by_cases z:q=0
   rotate_left
   ·rw [if_neg z] at hs
    obtain ⟨rfl,rfl,rfl,rfl⟩:0=r1∧0=r2∧(⟨#[]⟩:ByteArray)=r3∧q=r4:=by simpa [zz.no] using hs
    have dz:(q != 0)=true:=by simpa using z
    clear hs z
    as_aux_lemma=>
     go_wp2_with (first|(go_at_call 53;(with_reducible refine(qw.calls k _ _ _ u _ _ HT.out).mono ?_);rintro z w2 ⟨rfl,hb2⟩;have HD2:=zq.mk (hb2.mono (Nat.le_refl _));have HB2:=zq.mk (HB.out.trans (hb2.mono HB.out.size));clear hb2;cases zz.kp HB2.out;obtain ⟨x0,x1,x2,x3,x4,x5,x6,x7,x8⟩:=HP.out _ HD2.out)|(go_at_call 52;(with_reducible refine(za.lift (W0:=wc) HD2.out (HCY.out _ HD2.out)).mono ?_);rintro z w3 ⟨rfl,hb3⟩;have HD3:=zq.mk hb3;have HB3:=zq.mk (HB.out.trans (hb3.mono HB.out.size));clear hb3;cases zz.kp HB3.out)|(go_at_call 53;(with_reducible refine(za.lift (W0:=wc) (zm HD3.out _) (qw.calls k _ _ _ p _ _ HT2.out)).mono ?_);rintro z w4 ⟨rfl,hb4⟩;have HB4:=zq.mk (HB.out.trans (hb4.mono HB.out.size));clear hb4;cases zz.kp HB4.out))
     have HVX:=(zl (zl (zl (zz.hz (HB4.out)) 0 (.int .i64 0) rfl) 1 (.int .i64 0) rfl) 2 (.string ⟨#[]⟩) rfl)
     refine bodyPost_ret (qm (rs := [.cell 4 30,.tmp 5]) rfl (by simp) (.cell (w.heap.size+1) 30 _ (0,0) _ rfl HVX huv rfl (by kernel_rfl) (.tmp .nil))) rfl ?_
     exact⟨rfl,(((zz.hr (HB4.out)).setCell (p:=⟨w.heap.size+1,0,none⟩) (by simp <;> omega) _).setCell (p:=⟨w.heap.size+1,1,none⟩) (by simp <;> omega) _).setCell (p:=⟨w.heap.size+1,2,none⟩) (by simp <;> omega) _⟩
   rw [if_pos z,if_pos O19.out] at hs
   subst z
   obtain ⟨⟨m,n⟩,ht,hs_⟩:=Option.bind_eq_some_iff.1 hs
   clear hs
   try dsimp only at hs_
   have hs:=hs_
   have HA:=zq.mk ht
   clear ht hs_
   have HF:zq (∀ W:World,Calls Tryd.prog 70 #[.slice (some ⟨W.heap.size,0,none⟩) 2 2] (W.alloc (.cells #[.int .i64 u,.int .i64 p] 3)) fun e w'=>e = .returned (.tuple #[.int .i64 m,.int .i64 n])∧Below (W.alloc (.cells #[.int .i64 u,.int .i64 p] 3)).heap.size (W.alloc (.cells #[.int .i64 u,.int .i64 p] 3)) w'):=⟨fun W=>qt.calls (some ⟨W.heap.size,0,none⟩) 2 [u,p] m n _ (zj.zka W u p) (Nat.le_refl _) HA.out⟩
   have HV:zq (zqj.f m n=some (r1,r2,r3,r4)):=⟨hs⟩
   clear hs
   as_aux_lemma=>
    go_wp2_with (first|(go_at_call 53;(with_reducible refine(qw.calls k _ _ _ u _ _ HT.out).mono ?_);rintro z w2 ⟨rfl,hb2⟩;have HD2:=zq.mk (hb2.mono (Nat.le_refl _));have HB2:=zq.mk (HB.out.trans (hb2.mono HB.out.size));clear hb2;cases zz.kp HB2.out;obtain ⟨x0,x1,x2,x3,x4,x5,x6,x7,x8⟩:=HP.out _ HD2.out)|(go_at_call 52;(with_reducible refine(za.lift (W0:=wc) HD2.out (HCY.out _ HD2.out)).mono ?_);rintro z w3 ⟨rfl,hb3⟩;have HD3:=zq.mk hb3;have HB3:=zq.mk (HB.out.trans (hb3.mono HB.out.size));clear hb3;cases zz.kp HB3.out)|(go_at_call 53;(with_reducible refine(za.lift (W0:=wc) (zm HD3.out _) (qw.calls k _ _ _ p _ _ HT2.out)).mono ?_);rintro z w4 ⟨rfl,hb4⟩;have HB4:=zq.mk (HB.out.trans (hb4.mono HB.out.size));clear hb4;cases zz.kp HB4.out)|(go_at_call 70;(with_reducible refine(HF.out _).mono ?_);rintro z w5 ⟨rfl,hb5⟩;have HB5:=zq.mk ((zm HB4.out _).trans (hb5.mono (zm HB4.out _).size));clear hb5;cases zz.kp HB5.out)|(go_at_call 69;(with_reducible refine(zqj.calls _ _ r1 r2 r3 r4 _ HV.out).mono ?_);rintro z w6 ⟨rfl,hb6⟩;have HB6:=zq.mk ((HB5.out).trans (hb6.mono (zv (HB5.out))));clear hb6;cases zz.kp HB6.out))
    have HVX:=(zl (zl (zl (zz.hz (HB6.out)) 0 (.int .i64 r1) rfl) 1 (.int .i64 r2) rfl) 2 (.string r3) rfl)
    refine bodyPost_ret (qm (rs := [.cell 4 30,.tmp 5]) rfl (by simp) (.cell (w.heap.size+1) 30 _ (0,0) _ rfl HVX huv rfl (by kernel_rfl) (.tmp .nil))) rfl ?_
    exact⟨rfl,(((zz.hr (HB6.out)).setCell (p:=⟨w.heap.size+1,0,none⟩) (by simp <;> omega) _).setCell (p:=⟨w.heap.size+1,1,none⟩) (by simp <;> omega) _).setCell (p:=⟨w.heap.size+1,2,none⟩) (by simp <;> omega) _⟩
 by_cases o20:e.f0=20
 ·rw [if_pos (by omega)] at hs
  obtain ⟨⟨u,v⟩,ht,hs_⟩:=Option.bind_eq_some_iff.1 hs
  clear hs
  try dsimp only at hs_
  have hs:=hs_
  have HT:=zq.mk ht
  clear ht hs_
  have d19:(e.f0 == 19)=false:=by simpa using o19
  have d20:(e.f0 == 20)=true:=by simpa using o20
  by_cases z:v=0
  rotate_left
  ·rw [if_neg z] at hs
   obtain ⟨rfl,rfl,rfl,rfl⟩:0=r1∧0=r2∧(⟨#[]⟩:ByteArray)=r3∧v=r4:=by simpa [zz.no] using hs
   have dz:(v != 0)=true:=by simpa using z
   clear hs z o19 o20
   as_aux_lemma=>
    go_wp2_with (go_at_call 53;(with_reducible refine(qw.calls k _ _ _ _ _ _ HT.out).mono ?_);rintro z w2 ⟨rfl,hb2⟩;have HB2:=zq.mk ((HB.out).trans (hb2.mono (zv (HB.out))));clear hb2;cases zz.kp HB2.out)
    have HVX:=(zl (zl (zl (zz.hz (HB2.out)) 0 (.int .i64 0) rfl) 1 (.int .i64 0) rfl) 2 (.string ⟨#[]⟩) rfl)
    refine bodyPost_ret (qm (rs := [.cell 4 30,.tmp 5]) rfl (by simp) (.cell (w.heap.size+1) 30 _ (0,0) _ rfl HVX huv rfl (by kernel_rfl) (.tmp .nil))) rfl ?_
    exact⟨rfl,(((zz.hr (HB2.out)).setCell (p:=⟨w.heap.size+1,0,none⟩) (by simp <;> omega) _).setCell (p:=⟨w.heap.size+1,1,none⟩) (by simp <;> omega) _).setCell (p:=⟨w.heap.size+1,2,none⟩) (by simp <;> omega) _⟩
  rw [if_pos z] at hs
  subst z
  by_cases y:u=2
  ·rw [if_pos (by omega)] at hs
   have dy:(u == 2)=true:=by simpa using y
   have HO:=zq.mk hs
   clear hs y o19 o20
   as_aux_lemma=>
    go_wp2_with (first|(go_at_call 53;(with_reducible refine(qw.calls k _ _ _ _ _ _ HT.out).mono ?_);rintro z w2 ⟨rfl,hb2⟩;have HB2:=zq.mk ((HB.out).trans (hb2.mono (zv (HB.out))));clear hb2;cases zz.kp HB2.out)|(go_at_call 68;(with_reducible refine(zqr.calls _ r1 r2 r3 r4 _ HO.out).mono ?_);rintro z w3 ⟨rfl,hb3⟩;have HB3:=zq.mk ((HB2.out).trans (hb3.mono (zv (HB2.out))));clear hb3;cases zz.kp HB3.out))
    have HVX:=(zl (zl (zl (zz.hz (HB3.out)) 0 (.int .i64 r1) rfl) 1 (.int .i64 r2) rfl) 2 (.string r3) rfl)
    refine bodyPost_ret (qm (rs := [.cell 4 30,.tmp 5]) rfl (by simp) (.cell (w.heap.size+1) 30 _ (0,0) _ rfl HVX huv rfl (by kernel_rfl) (.tmp .nil))) rfl ?_
    exact⟨rfl,(((zz.hr (HB3.out)).setCell (p:=⟨w.heap.size+1,0,none⟩) (by simp <;> omega) _).setCell (p:=⟨w.heap.size+1,1,none⟩) (by simp <;> omega) _).setCell (p:=⟨w.heap.size+1,2,none⟩) (by simp <;> omega) _⟩
  rw [if_neg (by omega)] at hs
  have dy:(u == 2)=false:=by simpa using y
  have O19:=zq.mk o19
  cases r with
  | nil=>cases hs
  | cons y l=>
   have hl1:1<e.f5.length:=by rw [HX.out];simp
   have hy0:e.f5[1]=y:=by simp [HX.out]
   obtain ⟨bb_,oo_,eA,hcs⟩:=qq.at_ (Kd.zqe HRR.out (zz.hr HB.out)) (by omega)
   cases eA
   obtain ⟨A9,c9,p0,p1,p2,p3,p4,p5,p6,p7,l9,r9⟩:=hcs 1 hl1
   rw [hy0] at p0 p1 p2 p3 p4 p5 p6 p7 l9 r9
   simp only [Nat.one_mul] at p0 p1 p2 p3 p4 p5 p6 p7
   obtain ⟨⟨s1,s2,s3,s4⟩,ht,hs_⟩:=Option.bind_eq_some_iff.1 hs
   clear hs
   try dsimp only at hs_
   have hs:=hs_
   have HQ:=zq.mk ht
   clear ht hs_
   have hbo:bb<wc.heap.size:=World.block_lt_of_cell? wc _ p0
   have HCY:=zq.mk (fun (W:World) (hb:Below wc.heap.size wc W)=>HI.out y A9 c9 s1 s2 s3 s4 W (Kd.zqe r9 hb) l9 (Kd.zqe (Kd.zqe HRW.out (zz.hr HB.out)) hb) HQ.out)
   have HP:=zq.mk (fun (W:World) (hb:Below wc.heap.size wc W)=>(⟨zp hb p0,zp hb p1,zp hb p2,zp hb p3,zp hb p4,zp hb p5,zp hb p6,zp hb p7,Nat.lt_of_lt_of_le hbo hb.size⟩:W.cell? ⟨bb,oo+8,none⟩=some (.int .i64 y.f0)∧W.cell? ⟨bb,oo+8+1,none⟩=some (.int .i64 y.f1.f0)∧W.cell? ⟨bb,oo+8+2,none⟩=some (.int .i64 y.f1.f1)∧W.cell? ⟨bb,oo+8+3,none⟩=some (.string y.f1.f2)∧W.cell? ⟨bb,oo+8+4,none⟩=some (.string y.f2)∧W.cell? ⟨bb,oo+8+5,none⟩=some (.string y.f3)∧W.cell? ⟨bb,oo+8+6,none⟩=some (.int .i64 y.f4)∧W.cell? ⟨bb,oo+8+7,none⟩=some (.slice A9 y.f5.length c9)∧bb<W.heap.size))
   clear r9 hcs p0 p1 p2 p3 p4 p5 p6 p7 hy0 HQ o19 o20 hbo
   by_cases z:s4=0
   rotate_left
   ·rw [if_neg z] at hs
    obtain ⟨rfl,rfl,rfl,rfl⟩:0=r1∧0=r2∧(⟨#[]⟩:ByteArray)=r3∧s4=r4:=by simpa [zz.no] using hs
    have dz:(s4 != 0)=true:=by simpa using z
    clear hs z
    as_aux_lemma=>
     go_wp2_with (first|(go_at_call 53;(with_reducible refine(qw.calls k _ _ _ u _ _ HT.out).mono ?_);rintro z w2 ⟨rfl,hb2⟩;have HD2:=zq.mk (hb2.mono (Nat.le_refl _));have HB2:=zq.mk (HB.out.trans (hb2.mono HB.out.size));clear hb2;cases zz.kp HB2.out;obtain ⟨x0,x1,x2,x3,x4,x5,x6,x7,x8⟩:=HP.out _ HD2.out)|(go_at_call 52;(with_reducible refine(za.lift (W0:=wc) HD2.out (HCY.out _ HD2.out)).mono ?_);rintro z w3 ⟨rfl,hb3⟩;have HB3:=zq.mk (HB.out.trans (hb3.mono HB.out.size));clear hb3;cases zz.kp HB3.out))
     have HVX:=zy (zl (zl (zl (zz.hz HB3.out) 0 (.int .i64 0) rfl) 1 (.int .i64 0) rfl) 2 (.string ⟨#[]⟩) rfl) (.cells #[.int .i64 s1,.int .i64 s2,.string s3] 30)
     refine bodyPost_ret (qm (rs := [.cell 4 30,.tmp 5]) rfl (by simp) (.cell (w.heap.size+1) 30 _ (0,0) _ rfl HVX huv rfl (by kernel_rfl) (.tmp .nil))) rfl ?_
     exact⟨rfl,zm ((((zz.hr HB3.out).setCell (p:=⟨w.heap.size+1,0,none⟩) (by simp) _).setCell (p:=⟨w.heap.size+1,1,none⟩) (by simp) _).setCell (p:=⟨w.heap.size+1,2,none⟩) (by simp) _) _⟩
   rw [if_pos z] at hs
   subst z
   obtain ⟨⟨p,q⟩,ht,hs_⟩:=Option.bind_eq_some_iff.1 hs
   clear hs
   try dsimp only at hs_
   have hs:=hs_
   have HT2:=zq.mk ht
   clear ht hs_
   by_cases z:q=0
   rotate_left
   ·rw [if_neg z] at hs
    obtain ⟨rfl,rfl,rfl,rfl⟩:0=r1∧0=r2∧(⟨#[]⟩:ByteArray)=r3∧q=r4:=by simpa [zz.no] using hs
    have dz:(q != 0)=true:=by simpa using z
    clear hs z
    as_aux_lemma=>
     go_wp2_with (first|(go_at_call 53;(with_reducible refine(qw.calls k _ _ _ u _ _ HT.out).mono ?_);rintro z w2 ⟨rfl,hb2⟩;have HD2:=zq.mk (hb2.mono (Nat.le_refl _));have HB2:=zq.mk (HB.out.trans (hb2.mono HB.out.size));clear hb2;cases zz.kp HB2.out;obtain ⟨x0,x1,x2,x3,x4,x5,x6,x7,x8⟩:=HP.out _ HD2.out)|(go_at_call 52;(with_reducible refine(za.lift (W0:=wc) HD2.out (HCY.out _ HD2.out)).mono ?_);rintro z w3 ⟨rfl,hb3⟩;have HD3:=zq.mk hb3;have HB3:=zq.mk (HB.out.trans (hb3.mono HB.out.size));clear hb3;cases zz.kp HB3.out)|(go_at_call 53;(with_reducible refine(za.lift (W0:=wc) (zm HD3.out _) (qw.calls k _ _ _ p _ _ HT2.out)).mono ?_);rintro z w4 ⟨rfl,hb4⟩;have HB4:=zq.mk (HB.out.trans (hb4.mono HB.out.size));clear hb4;cases zz.kp HB4.out))
     have HVX:=(zl (zl (zl (zz.hz (HB4.out)) 0 (.int .i64 0) rfl) 1 (.int .i64 0) rfl) 2 (.string ⟨#[]⟩) rfl)
     refine bodyPost_ret (qm (rs := [.cell 4 30,.tmp 5]) rfl (by simp) (.cell (w.heap.size+1) 30 _ (0,0) _ rfl HVX huv rfl (by kernel_rfl) (.tmp .nil))) rfl ?_
     exact⟨rfl,(((zz.hr (HB4.out)).setCell (p:=⟨w.heap.size+1,0,none⟩) (by simp <;> omega) _).setCell (p:=⟨w.heap.size+1,1,none⟩) (by simp <;> omega) _).setCell (p:=⟨w.heap.size+1,2,none⟩) (by simp <;> omega) _⟩
   rw [if_pos z,if_neg O19.out] at hs
   subst z
   obtain ⟨⟨m,n⟩,ht,hs_⟩:=Option.bind_eq_some_iff.1 hs
   clear hs
   try dsimp only at hs_
   have hs:=hs_
   have HA:=zq.mk ht
   clear ht hs_
   have HF:zq (∀ W:World,Calls Tryd.prog 71 #[.slice (some ⟨W.heap.size,0,none⟩) 2 2] (W.alloc (.cells #[.int .i64 u,.int .i64 p] 3)) fun e w'=>e = .returned (.tuple #[.int .i64 m,.int .i64 n])∧Below (W.alloc (.cells #[.int .i64 u,.int .i64 p] 3)).heap.size (W.alloc (.cells #[.int .i64 u,.int .i64 p] 3)) w'):=⟨fun W=>qr.calls (some ⟨W.heap.size,0,none⟩) 2 [u,p] m n _ (zj.zka W u p) (Nat.le_refl _) HA.out⟩
   have HV:zq (zqj.f m n=some (r1,r2,r3,r4)):=⟨hs⟩
   clear hs
   as_aux_lemma=>
    go_wp2_with (first|(go_at_call 53;(with_reducible refine(qw.calls k _ _ _ u _ _ HT.out).mono ?_);rintro z w2 ⟨rfl,hb2⟩;have HD2:=zq.mk (hb2.mono (Nat.le_refl _));have HB2:=zq.mk (HB.out.trans (hb2.mono HB.out.size));clear hb2;cases zz.kp HB2.out;obtain ⟨x0,x1,x2,x3,x4,x5,x6,x7,x8⟩:=HP.out _ HD2.out)|(go_at_call 52;(with_reducible refine(za.lift (W0:=wc) HD2.out (HCY.out _ HD2.out)).mono ?_);rintro z w3 ⟨rfl,hb3⟩;have HD3:=zq.mk hb3;have HB3:=zq.mk (HB.out.trans (hb3.mono HB.out.size));clear hb3;cases zz.kp HB3.out)|(go_at_call 53;(with_reducible refine(za.lift (W0:=wc) (zm HD3.out _) (qw.calls k _ _ _ p _ _ HT2.out)).mono ?_);rintro z w4 ⟨rfl,hb4⟩;have HB4:=zq.mk (HB.out.trans (hb4.mono HB.out.size));clear hb4;cases zz.kp HB4.out)|(go_at_call 71;(with_reducible refine(HF.out _).mono ?_);rintro z w5 ⟨rfl,hb5⟩;have HB5:=zq.mk ((zm HB4.out _).trans (hb5.mono (zm HB4.out _).size));clear hb5;cases zz.kp HB5.out)|(go_at_call 69;(with_reducible refine(zqj.calls _ _ r1 r2 r3 r4 _ HV.out).mono ?_);rintro z w6 ⟨rfl,hb6⟩;have HB6:=zq.mk ((HB5.out).trans (hb6.mono (zv (HB5.out))));clear hb6;cases zz.kp HB6.out))
    have HVX:=(zl (zl (zl (zz.hz (HB6.out)) 0 (.int .i64 r1) rfl) 1 (.int .i64 r2) rfl) 2 (.string r3) rfl)
    refine bodyPost_ret (qm (rs := [.cell 4 30,.tmp 5]) rfl (by simp) (.cell (w.heap.size+1) 30 _ (0,0) _ rfl HVX huv rfl (by kernel_rfl) (.tmp .nil))) rfl ?_
    exact⟨rfl,(((zz.hr (HB6.out)).setCell (p:=⟨w.heap.size+1,0,none⟩) (by simp <;> omega) _).setCell (p:=⟨w.heap.size+1,1,none⟩) (by simp <;> omega) _).setCell (p:=⟨w.heap.size+1,2,none⟩) (by simp <;> omega) _⟩
 rw [if_neg (by omega)] at hs
 have d19:(e.f0 == 19)=false:=by simpa using o19
 have d20:(e.f0 == 20)=false:=by simpa using o20
 by_cases o6:e.f0=6
 ·rw [if_pos o6] at hs
  obtain ⟨t,ht,hs_⟩:=Option.bind_eq_some_iff.1 hs
  clear hs
  try dsimp only at hs_
  have hs:=hs_
  have HT:=zq.mk ht
  clear ht hs_
  obtain ⟨rfl,rfl,rfl,rfl⟩:1=r1∧t=r2∧(⟨#[]⟩:ByteArray)=r3∧0=r4:=by simpa using hs
  have d6:(e.f0 == 6)=true:=by simpa using o6
  clear hs o6 o19 o20
  as_aux_lemma=>
   go_wp2_with (go_at_call 72;(with_reducible refine(za.drawn (zq3.calls _ _ _ HT.out)).mono ?_);rintro z w2 ⟨rfl,hb2⟩;have HB2:=zq.mk ((HB.out).trans (hb2.mono (zv (HB.out))));clear hb2;cases zz.kp HB2.out)
   have HVX:=(zl (zl (zl (zz.hz (HB2.out)) 0 (.int .i64 1) rfl) 1 (.int .i64 t) rfl) 2 (.string ⟨#[]⟩) rfl)
   refine bodyPost_ret (qm (rs := [.cell 4 30,.tmp 5]) rfl (by simp) (.cell (w.heap.size+1) 30 _ (0,0) _ rfl HVX huv rfl (by kernel_rfl) (.tmp .nil))) rfl ?_
   exact⟨rfl,(((zz.hr (HB2.out)).setCell (p:=⟨w.heap.size+1,0,none⟩) (by simp <;> omega) _).setCell (p:=⟨w.heap.size+1,1,none⟩) (by simp <;> omega) _).setCell (p:=⟨w.heap.size+1,2,none⟩) (by simp <;> omega) _⟩
 rw [if_neg o6] at hs
 have d6:(e.f0 == 6)=false:=by simpa using o6
 by_cases o7:e.f0=7
 ·rw [if_pos o7] at hs
  obtain ⟨t,ht,hs_⟩:=Option.bind_eq_some_iff.1 hs
  clear hs
  try dsimp only at hs_
  have hs:=hs_
  have HT:=zq.mk ht
  clear ht hs_
  obtain ⟨rfl,rfl,rfl,rfl⟩:1=r1∧t=r2∧(⟨#[]⟩:ByteArray)=r3∧0=r4:=by simpa using hs
  have d7:(e.f0 == 7)=true:=by simpa using o7
  clear hs o7 o19 o20 o6
  as_aux_lemma=>
   go_wp2_with (go_at_call 72;(with_reducible refine(za.drawn (zq3.calls _ _ _ HT.out)).mono ?_);rintro z w2 ⟨rfl,hb2⟩;have HB2:=zq.mk ((HB.out).trans (hb2.mono (zv (HB.out))));clear hb2;cases zz.kp HB2.out)
   have HVX:=(zl (zl (zl (zz.hz (HB2.out)) 0 (.int .i64 1) rfl) 1 (.int .i64 t) rfl) 2 (.string ⟨#[]⟩) rfl)
   refine bodyPost_ret (qm (rs := [.cell 4 30,.tmp 5]) rfl (by simp) (.cell (w.heap.size+1) 30 _ (0,0) _ rfl HVX huv rfl (by kernel_rfl) (.tmp .nil))) rfl ?_
   exact⟨rfl,(((zz.hr (HB2.out)).setCell (p:=⟨w.heap.size+1,0,none⟩) (by simp <;> omega) _).setCell (p:=⟨w.heap.size+1,1,none⟩) (by simp <;> omega) _).setCell (p:=⟨w.heap.size+1,2,none⟩) (by simp <;> omega) _⟩
 rw [if_neg o7] at hs
 have d7:(e.f0 == 7)=false:=by simpa using o7
 by_cases o5:e.f0=5
 ·rw [if_pos o5] at hs
  obtain ⟨⟨u,v⟩,ht,hs_⟩:=Option.bind_eq_some_iff.1 hs
  clear hs
  try dsimp only at hs_
  have hs:=hs_
  have HT:=zq.mk ht
  clear ht hs_
  have d5:(e.f0 == 5)=true:=by simpa using o5
  clear o5 o6 o7 o19 o20
  by_cases z:v=0
  ·rw [if_pos z] at hs
   obtain ⟨⟨p,q⟩,ht,hs_⟩:=Option.bind_eq_some_iff.1 hs
   clear hs
   try dsimp only at hs_
   have hs:=hs_
   have HN:=zq.mk ht
   clear ht hs_
   subst z
   have HV:zq (zqj.f p q=some (r1,r2,r3,r4)):=⟨hs⟩
   clear hs
   as_aux_lemma=>
    go_wp2_with (first|(go_at_call 53;(with_reducible refine(qw.calls k _ _ _ _ _ _ HT.out).mono ?_);rintro z w2 ⟨rfl,hb2⟩;have HB2:=zq.mk ((HB.out).trans (hb2.mono (zv (HB.out))));clear hb2;cases zz.kp HB2.out)|(go_at_call 73;(with_reducible refine(za.drawn (zja.calls _ _ _ _ HN.out)).mono ?_);rintro z w3 ⟨rfl,hb3⟩;have HB3:=zq.mk ((HB2.out).trans (hb3.mono (zv (HB2.out))));clear hb3;cases zz.kp HB3.out)|(go_at_call 69;(with_reducible refine(zqj.calls _ _ r1 r2 r3 r4 _ HV.out).mono ?_);rintro z w4 ⟨rfl,hb4⟩;have HB4:=zq.mk ((HB3.out).trans (hb4.mono (zv (HB3.out))));clear hb4;cases zz.kp HB4.out))
    have HVX:=(zl (zl (zl (zz.hz (HB4.out)) 0 (.int .i64 r1) rfl) 1 (.int .i64 r2) rfl) 2 (.string r3) rfl)
    refine bodyPost_ret (qm (rs := [.cell 4 30,.tmp 5]) rfl (by simp) (.cell (w.heap.size+1) 30 _ (0,0) _ rfl HVX huv rfl (by kernel_rfl) (.tmp .nil))) rfl ?_
    exact⟨rfl,(((zz.hr (HB4.out)).setCell (p:=⟨w.heap.size+1,0,none⟩) (by simp <;> omega) _).setCell (p:=⟨w.heap.size+1,1,none⟩) (by simp <;> omega) _).setCell (p:=⟨w.heap.size+1,2,none⟩) (by simp <;> omega) _⟩
  rw [if_neg z] at hs
  obtain ⟨rfl,rfl,rfl,rfl⟩:0=r1∧0=r2∧(⟨#[]⟩:ByteArray)=r3∧v=r4:=by simpa [zz.no] using hs
  have dz:(v != 0)=true:=by simpa using z
  clear hs z
  as_aux_lemma=>
   go_wp2_with (go_at_call 53;(with_reducible refine(qw.calls k _ _ _ _ _ _ HT.out).mono ?_);rintro z w2 ⟨rfl,hb2⟩;have HB2:=zq.mk ((HB.out).trans (hb2.mono (zv (HB.out))));clear hb2;cases zz.kp HB2.out)
   have HVX:=(zl (zl (zl (zz.hz (HB2.out)) 0 (.int .i64 0) rfl) 1 (.int .i64 0) rfl) 2 (.string ⟨#[]⟩) rfl)
   refine bodyPost_ret (qm (rs := [.cell 4 30,.tmp 5]) rfl (by simp) (.cell (w.heap.size+1) 30 _ (0,0) _ rfl HVX huv rfl (by kernel_rfl) (.tmp .nil))) rfl ?_
   exact⟨rfl,(((zz.hr (HB2.out)).setCell (p:=⟨w.heap.size+1,0,none⟩) (by simp <;> omega) _).setCell (p:=⟨w.heap.size+1,1,none⟩) (by simp <;> omega) _).setCell (p:=⟨w.heap.size+1,2,none⟩) (by simp <;> omega) _⟩
 rw [if_neg o5] at hs
 have d5:(e.f0 == 5)=false:=by simpa using o5
 by_cases o4:e.f0=4
 ·rw [if_pos o4] at hs
  obtain ⟨⟨u,v⟩,ht,hs_⟩:=Option.bind_eq_some_iff.1 hs
  clear hs
  try dsimp only at hs_
  have hs:=hs_
  have HT:=zq.mk ht
  clear ht hs_
  have d4:(e.f0 == 4)=true:=by simpa using o4
  clear o4 o5 o6 o7 o19 o20
  cases u with
  | false=>
   rw [if_pos rfl] at hs
   obtain ⟨rfl,rfl,rfl,rfl⟩:0=r1∧0=r2∧(⟨#[]⟩:ByteArray)=r3∧12=r4:=by simpa [zz.no] using hs
   clear hs
   as_aux_lemma=>
    go_wp2_with (go_at_call 74;(with_reducible refine(qp.calls k _ _ _ _ _ _ _ _ _ HT.out).mono ?_);rintro z w2 ⟨rfl,hb2⟩;have HB2:=zq.mk ((HB.out).trans (hb2.mono (zv (HB.out))));have MA2:=zq.mk (zf (MA0.out) hb2);have lMA2:=qf MA2.out;have ma2_0:w2.cell? ⟨g6,0,none⟩=some (.int .i64 a.f0):=(zo MA2.out 0).trans rfl;have ma2_1:w2.cell? ⟨g6,1,none⟩=some (.int .i64 a.f1):=(zo MA2.out 1).trans rfl;have ma2_2:w2.cell? ⟨g6,2,none⟩=some (.string a.f2):=(zo MA2.out 2).trans rfl;clear hb2;cases zz.kp HB2.out)
    have HVX:=(zl (zl (zl (zz.hz (HB2.out)) 0 (.int .i64 0) rfl) 1 (.int .i64 0) rfl) 2 (.string ⟨#[]⟩) rfl)
    refine bodyPost_ret (qm (rs := [.cell 4 30,.tmp 5]) rfl (by simp) (.cell (w.heap.size+1) 30 _ (0,0) _ rfl HVX huv rfl (by kernel_rfl) (.tmp .nil))) rfl ?_
    exact⟨rfl,(((zz.hr (HB2.out)).setCell (p:=⟨w.heap.size+1,0,none⟩) (by simp <;> omega) _).setCell (p:=⟨w.heap.size+1,1,none⟩) (by simp <;> omega) _).setCell (p:=⟨w.heap.size+1,2,none⟩) (by simp <;> omega) _⟩
  | true=>
   rw [if_neg (by decide)] at hs
   cases v with
   | true=>
    rw [if_pos rfl] at hs
    obtain ⟨rfl,rfl,rfl,rfl⟩:0=r1∧0=r2∧(⟨#[]⟩:ByteArray)=r3∧0=r4:=by simpa [zz.no] using hs
    clear hs
    as_aux_lemma=>
     go_wp2_with (go_at_call 74;(with_reducible refine(qp.calls k _ _ _ _ _ _ _ _ _ HT.out).mono ?_);rintro z w2 ⟨rfl,hb2⟩;have HB2:=zq.mk ((HB.out).trans (hb2.mono (zv (HB.out))));have MA2:=zq.mk (zf (MA0.out) hb2);have lMA2:=qf MA2.out;have ma2_0:w2.cell? ⟨g6,0,none⟩=some (.int .i64 a.f0):=(zo MA2.out 0).trans rfl;have ma2_1:w2.cell? ⟨g6,1,none⟩=some (.int .i64 a.f1):=(zo MA2.out 1).trans rfl;have ma2_2:w2.cell? ⟨g6,2,none⟩=some (.string a.f2):=(zo MA2.out 2).trans rfl;clear hb2;cases zz.kp HB2.out)
     have HVX:=(zl (zl (zl (zz.hz (HB2.out)) 0 (.int .i64 0) rfl) 1 (.int .i64 0) rfl) 2 (.string ⟨#[]⟩) rfl)
     refine bodyPost_ret (qm (rs := [.cell 4 30,.tmp 5]) rfl (by simp) (.cell (w.heap.size+1) 30 _ (0,0) _ rfl HVX huv rfl (by kernel_rfl) (.tmp .nil))) rfl ?_
     exact⟨rfl,(((zz.hr (HB2.out)).setCell (p:=⟨w.heap.size+1,0,none⟩) (by simp <;> omega) _).setCell (p:=⟨w.heap.size+1,1,none⟩) (by simp <;> omega) _).setCell (p:=⟨w.heap.size+1,2,none⟩) (by simp <;> omega) _⟩
   | false=>
    rw [if_neg (by decide)] at hs
    obtain ⟨⟨p,q⟩,ht,hs_⟩:=Option.bind_eq_some_iff.1 hs
    clear hs
    try dsimp only at hs_
    have hs:=hs_
    have HN:=zq.mk ht
    clear ht hs_
    have HV:zq (zqf.f p q=some (r1,r2,r3,r4)):=⟨hs⟩
    clear hs
    as_aux_lemma=>
     go_wp2_with (first|(go_at_call 74;(with_reducible refine(qp.calls k _ _ _ _ _ _ _ _ _ HT.out).mono ?_);rintro z w2 ⟨rfl,hb2⟩;have HB2:=zq.mk ((HB.out).trans (hb2.mono (zv (HB.out))));have MA2:=zq.mk (zf (MA0.out) hb2);have lMA2:=qf MA2.out;have ma2_0:w2.cell? ⟨g6,0,none⟩=some (.int .i64 a.f0):=(zo MA2.out 0).trans rfl;have ma2_1:w2.cell? ⟨g6,1,none⟩=some (.int .i64 a.f1):=(zo MA2.out 1).trans rfl;have ma2_2:w2.cell? ⟨g6,2,none⟩=some (.string a.f2):=(zo MA2.out 2).trans rfl;clear hb2;cases zz.kp HB2.out)|(go_at_call 76;(with_reducible refine(za.drawn (zjj.calls _ _ _ _ HN.out)).mono ?_);rintro z w3 ⟨rfl,hb3⟩;have HB3:=zq.mk ((HB2.out).trans (hb3.mono (zv (HB2.out))));clear hb3;cases zz.kp HB3.out)|(go_at_call 75;(with_reducible refine(zqf.calls _ _ r1 r2 r3 r4 _ HV.out).mono ?_);rintro z w4 ⟨rfl,hb4⟩;have HB4:=zq.mk ((HB3.out).trans (hb4.mono (zv (HB3.out))));clear hb4;cases zz.kp HB4.out))
     have HVX:=(zl (zl (zl (zz.hz (HB4.out)) 0 (.int .i64 r1) rfl) 1 (.int .i64 r2) rfl) 2 (.string r3) rfl)
     refine bodyPost_ret (qm (rs := [.cell 4 30,.tmp 5]) rfl (by simp) (.cell (w.heap.size+1) 30 _ (0,0) _ rfl HVX huv rfl (by kernel_rfl) (.tmp .nil))) rfl ?_
     exact⟨rfl,(((zz.hr (HB4.out)).setCell (p:=⟨w.heap.size+1,0,none⟩) (by simp <;> omega) _).setCell (p:=⟨w.heap.size+1,1,none⟩) (by simp <;> omega) _).setCell (p:=⟨w.heap.size+1,2,none⟩) (by simp <;> omega) _⟩
 rw [if_neg o4] at hs
 have d4:(e.f0 == 4)=false:=by simpa using o4
 cases r with
 | nil=>cases hs
 | cons y l=>
  have hl1:1<e.f5.length:=by rw [HX.out];simp
  have hy0:e.f5[1]=y:=by simp [HX.out]
  obtain ⟨bb_,oo_,eA,hcs⟩:=qq.at_ (Kd.zqe HRR.out (zz.hr HB.out)) (by omega)
  cases eA
  obtain ⟨A9,c9,p0,p1,p2,p3,p4,p5,p6,p7,l9,r9⟩:=hcs 1 hl1
  rw [hy0] at p0 p1 p2 p3 p4 p5 p6 p7 l9 r9
  simp only [Nat.one_mul] at p0 p1 p2 p3 p4 p5 p6 p7
  obtain ⟨⟨s1,s2,s3,s4⟩,ht,hs_⟩:=Option.bind_eq_some_iff.1 hs
  clear hs
  try dsimp only at hs_
  have hs:=hs_
  have HQ:=zq.mk ht
  clear ht hs_
  have hbo:bb<wc.heap.size:=World.block_lt_of_cell? wc _ p0
  have HCY:=zq.mk (HI.out y A9 c9 s1 s2 s3 s4 wc r9 l9 (Kd.zqe HRW.out (zz.hr HB.out)) HQ.out)
  clear r9 hcs hy0 HQ hbo o4 o5 o6 o7 o19 o20
  by_cases z:s4=0
  rotate_left
  ·rw [if_neg z] at hs
   obtain ⟨rfl,rfl,rfl,rfl⟩:0=r1∧0=r2∧(⟨#[]⟩:ByteArray)=r3∧s4=r4:=by simpa [zz.no] using hs
   have dz:(s4 != 0)=true:=by simpa using z
   clear hs z
   as_aux_lemma=>
    go_wp2_with (go_at_call 52;(with_reducible refine HCY.out.mono ?_);rintro z w3 ⟨rfl,hb3⟩;have HB3:=zq.mk (HB.out.trans (hb3.mono HB.out.size));have MA3:=zq.mk (zf MA0.out hb3);clear hb3;cases zz.kp HB3.out;have lA3:=qf MA3.out;have a3_0:w3.cell? ⟨g6,0,none⟩=some (.int .i64 a.f0):=(zo MA3.out 0).trans rfl;have a3_1:w3.cell? ⟨g6,1,none⟩=some (.int .i64 a.f1):=(zo MA3.out 1).trans rfl;have a3_2:w3.cell? ⟨g6,2,none⟩=some (.string a.f2):=(zo MA3.out 2).trans rfl)
    have HVX:=zy (zl (zl (zl (zz.hz HB3.out) 0 (.int .i64 0) rfl) 1 (.int .i64 0) rfl) 2 (.string ⟨#[]⟩) rfl) (.cells #[.int .i64 s1,.int .i64 s2,.string s3] 30)
    refine bodyPost_ret (qm (rs := [.cell 4 30,.tmp 5]) rfl (by simp) (.cell (w.heap.size+1) 30 _ (0,0) _ rfl HVX huv rfl (by kernel_rfl) (.tmp .nil))) rfl ?_
    exact⟨rfl,zm ((((zz.hr HB3.out).setCell (p:=⟨w.heap.size+1,0,none⟩) (by simp) _).setCell (p:=⟨w.heap.size+1,1,none⟩) (by simp) _).setCell (p:=⟨w.heap.size+1,2,none⟩) (by simp) _) _⟩
  rw [if_pos z] at hs
  subst z
  have HS:=zq.mk hs
  clear hs
  go_upto_region 40 with (fail)
  go_cut [18,19] (fun v18 v19 wd => ∃ (g7:Nat),v18 = .pointer (some ⟨g7,0,none⟩)∧v19 = .int .i64 0∧zq (Below (zz.w0 e (some ⟨bb,oo,none⟩) c7 w).heap.size (zz.w0 e (some ⟨bb,oo,none⟩) c7 w) wd)∧zq (wd.heap[g6]? = some (.cells #[.int .i64 a.f0,.int .i64 a.f1,.string a.f2] 30))∧zq (wd.heap[g7]? = some (.cells #[.int .i64 s1,.int .i64 s2,.string s3] 30)))
  case first=>
   go_wp2_with (go_at_call 52;(with_reducible refine HCY.out.mono ?_);rintro z w3 ⟨rfl,hb3⟩;have HB3:=zq.mk (HB.out.trans (hb3.mono HB.out.size));have MA3:=zq.mk (zf MA0.out hb3);clear hb3;cases zz.kp HB3.out;have lA3:=qf MA3.out;have a3_0:w3.cell? ⟨g6,0,none⟩=some (.int .i64 a.f0):=(zo MA3.out 0).trans rfl;have a3_1:w3.cell? ⟨g6,1,none⟩=some (.int .i64 a.f1):=(zo MA3.out 1).trans rfl;have a3_2:w3.cell? ⟨g6,2,none⟩=some (.string a.f2):=(zo MA3.out 2).trans rfl)
   go_meet
   exact⟨_,rfl,rfl,⟨zm HB3.out _⟩,⟨zy MA3.out _⟩,⟨zjt _ _⟩⟩
  clear HCY p0 p1 p2 p3 p4 p5 p6 p7 HB MA0 a0 a1 a2 lA
  obtain ⟨g7,rfl,rfl,HB,MA0,MB0⟩:=hcut
  cases zz.kp HB.out
  have lA:=qf MA0.out
  have lB:=qf MB0.out
  obtain ⟨b,hb⟩:∃ b:S30,b=⟨s1,s2,s3⟩:=⟨_,rfl⟩
  obtain ⟨rfl,rfl,rfl⟩:b.f0=s1∧b.f1=s2∧b.f2=s3:=by rw [hb];exact⟨rfl,rfl,rfl⟩
  have hs:zz.two k e.f0 a b=some (r1,r2,r3,r4):=HS.out
  clear HS hb
  unfold zz.two at hs
  have a0:wc.cell? ⟨g6,0,none⟩=some (.int .i64 a.f0):=(zo MA0.out 0).trans rfl
  have a1:wc.cell? ⟨g6,1,none⟩=some (.int .i64 a.f1):=(zo MA0.out 1).trans rfl
  have a2:wc.cell? ⟨g6,2,none⟩=some (.string a.f2):=(zo MA0.out 2).trans rfl
  have b0:wc.cell? ⟨g7,0,none⟩=some (.int .i64 b.f0):=(zo MB0.out 0).trans rfl
  have b1:wc.cell? ⟨g7,1,none⟩=some (.int .i64 b.f1):=(zo MB0.out 1).trans rfl
  have b2:wc.cell? ⟨g7,2,none⟩=some (.string b.f2):=(zo MB0.out 2).trans rfl
  by_cases o13:13≤e.f0
  ·rw [if_pos o13] at hs
   obtain ⟨⟨u,v⟩,ht,hs_⟩:=Option.bind_eq_some_iff.1 hs
   clear hs
   try dsimp only at hs_
   have hs:=hs_
   have HT:=zq.mk ht
   clear ht hs_
   have d13:=decide_eq_true o13
   have HV:zq (zqj.f u v=some (r1,r2,r3,r4)):=⟨hs⟩
   clear hs o13
   as_aux_lemma=>
    go_wp2_with (first|(go_at_call 77;(with_reducible refine(ze.calls k _ _ _ _ _ _ _ _ _ _ HT.out).mono ?_);rintro z w2 ⟨rfl,hb2⟩;have HB2:=zq.mk ((HB.out).trans (hb2.mono (zv (HB.out))));clear hb2;cases zz.kp HB2.out)|(go_at_call 69;(with_reducible refine(zqj.calls _ _ r1 r2 r3 r4 _ HV.out).mono ?_);rintro z w3 ⟨rfl,hb3⟩;have HB3:=zq.mk ((HB2.out).trans (hb3.mono (zv (HB2.out))));clear hb3;cases zz.kp HB3.out))
    have HVX:=(zl (zl (zl (zz.hz (HB3.out)) 0 (.int .i64 r1) rfl) 1 (.int .i64 r2) rfl) 2 (.string r3) rfl)
    refine bodyPost_ret (qm (rs := [.cell 4 30,.tmp 5]) rfl (by simp) (.cell (w.heap.size+1) 30 _ (0,0) _ rfl HVX huv rfl (by kernel_rfl) (.tmp .nil))) rfl ?_
    exact⟨rfl,(((zz.hr (HB3.out)).setCell (p:=⟨w.heap.size+1,0,none⟩) (by simp <;> omega) _).setCell (p:=⟨w.heap.size+1,1,none⟩) (by simp <;> omega) _).setCell (p:=⟨w.heap.size+1,2,none⟩) (by simp <;> omega) _⟩
  rw [if_neg o13] at hs
  have d13:=decide_eq_false o13
  obtain ⟨⟨u,v⟩,ht,hs_⟩:=Option.bind_eq_some_iff.1 hs
  clear hs
  try dsimp only at hs_
  have hs:=hs_
  have HT:=zq.mk ht
  clear ht hs_
  clear o13
  cases u with
  | false=>
   rw [if_pos rfl] at hs
   obtain ⟨rfl,rfl,rfl,rfl⟩:0=r1∧0=r2∧(⟨#[]⟩:ByteArray)=r3∧12=r4:=by simpa [zz.no] using hs
   clear hs
   as_aux_lemma=>
    go_wp2_with (go_at_call 74;(with_reducible refine(qp.calls k _ _ _ _ _ _ _ _ _ HT.out).mono ?_);rintro z w2 ⟨rfl,hb2⟩;have HB2:=zq.mk ((HB.out).trans (hb2.mono (zv (HB.out))));clear hb2;cases zz.kp HB2.out)
    have HVX:=(zl (zl (zl (zz.hz (HB2.out)) 0 (.int .i64 0) rfl) 1 (.int .i64 0) rfl) 2 (.string ⟨#[]⟩) rfl)
    refine bodyPost_ret (qm (rs := [.cell 4 30,.tmp 5]) rfl (by simp) (.cell (w.heap.size+1) 30 _ (0,0) _ rfl HVX huv rfl (by kernel_rfl) (.tmp .nil))) rfl ?_
    exact⟨rfl,(((zz.hr (HB2.out)).setCell (p:=⟨w.heap.size+1,0,none⟩) (by simp <;> omega) _).setCell (p:=⟨w.heap.size+1,1,none⟩) (by simp <;> omega) _).setCell (p:=⟨w.heap.size+1,2,none⟩) (by simp <;> omega) _⟩
  | true=>
   rw [if_neg (by decide)] at hs
   cases v with
   | true=>
    rw [if_pos rfl] at hs
    obtain ⟨rfl,rfl,rfl,rfl⟩:0=r1∧0=r2∧(⟨#[]⟩:ByteArray)=r3∧0=r4:=by simpa [zz.no] using hs
    clear hs
    as_aux_lemma=>
     go_wp2_with (go_at_call 74;(with_reducible refine(qp.calls k _ _ _ _ _ _ _ _ _ HT.out).mono ?_);rintro z w2 ⟨rfl,hb2⟩;have HB2:=zq.mk ((HB.out).trans (hb2.mono (zv (HB.out))));clear hb2;cases zz.kp HB2.out)
     have HVX:=(zl (zl (zl (zz.hz (HB2.out)) 0 (.int .i64 0) rfl) 1 (.int .i64 0) rfl) 2 (.string ⟨#[]⟩) rfl)
     refine bodyPost_ret (qm (rs := [.cell 4 30,.tmp 5]) rfl (by simp) (.cell (w.heap.size+1) 30 _ (0,0) _ rfl HVX huv rfl (by kernel_rfl) (.tmp .nil))) rfl ?_
     exact⟨rfl,(((zz.hr (HB2.out)).setCell (p:=⟨w.heap.size+1,0,none⟩) (by simp <;> omega) _).setCell (p:=⟨w.heap.size+1,1,none⟩) (by simp <;> omega) _).setCell (p:=⟨w.heap.size+1,2,none⟩) (by simp <;> omega) _⟩
   | false=>
    rw [if_neg (by decide)] at hs
    by_cases o8:e.f0=8
    ·rw [if_pos o8] at hs
     have d8:(e.f0 == 8)=true:=by simpa using o8
     obtain ⟨⟨p,q⟩,ht,hs_⟩:=Option.bind_eq_some_iff.1 hs
     clear hs
     try dsimp only at hs_
     have hs:=hs_
     have HN:=zq.mk ht
     clear ht hs_
     have HV:zq (zqf.f p q=some (r1,r2,r3,r4)):=⟨hs⟩
     clear hs o8
     as_aux_lemma=>
      go_wp2_with (first|(go_at_call 74;(with_reducible refine(qp.calls k _ _ _ _ _ _ _ _ _ HT.out).mono ?_);rintro z w2 ⟨rfl,hb2⟩;have HB2:=zq.mk ((HB.out).trans (hb2.mono (zv (HB.out))));have MA2:=zq.mk (zf (MA0.out) hb2);have lMA2:=qf MA2.out;have ma2_0:w2.cell? ⟨g6,0,none⟩=some (.int .i64 a.f0):=(zo MA2.out 0).trans rfl;have ma2_1:w2.cell? ⟨g6,1,none⟩=some (.int .i64 a.f1):=(zo MA2.out 1).trans rfl;have ma2_2:w2.cell? ⟨g6,2,none⟩=some (.string a.f2):=(zo MA2.out 2).trans rfl;have MB2:=zq.mk (zf (MB0.out) hb2);have lMB2:=qf MB2.out;have mb2_0:w2.cell? ⟨g7,0,none⟩=some (.int .i64 b.f0):=(zo MB2.out 0).trans rfl;have mb2_1:w2.cell? ⟨g7,1,none⟩=some (.int .i64 b.f1):=(zo MB2.out 1).trans rfl;have mb2_2:w2.cell? ⟨g7,2,none⟩=some (.string b.f2):=(zo MB2.out 2).trans rfl;clear hb2;cases zz.kp HB2.out)|(go_at_call 78;(with_reducible refine(za.drawn (zjk.calls _ _ _ _ _ HN.out)).mono ?_);rintro z w3 ⟨rfl,hb3⟩;have HB3:=zq.mk ((HB2.out).trans (hb3.mono (zv (HB2.out))));clear hb3;cases zz.kp HB3.out)|(go_at_call 75;(with_reducible refine(zqf.calls _ _ r1 r2 r3 r4 _ HV.out).mono ?_);rintro z w4 ⟨rfl,hb4⟩;have HB4:=zq.mk ((HB3.out).trans (hb4.mono (zv (HB3.out))));clear hb4;cases zz.kp HB4.out))
      have HVX:=(zl (zl (zl (zz.hz (HB4.out)) 0 (.int .i64 r1) rfl) 1 (.int .i64 r2) rfl) 2 (.string r3) rfl)
      refine bodyPost_ret (qm (rs := [.cell 4 30,.tmp 5]) rfl (by simp) (.cell (w.heap.size+1) 30 _ (0,0) _ rfl HVX huv rfl (by kernel_rfl) (.tmp .nil))) rfl ?_
      exact⟨rfl,(((zz.hr (HB4.out)).setCell (p:=⟨w.heap.size+1,0,none⟩) (by simp <;> omega) _).setCell (p:=⟨w.heap.size+1,1,none⟩) (by simp <;> omega) _).setCell (p:=⟨w.heap.size+1,2,none⟩) (by simp <;> omega) _⟩
    rw [if_neg o8] at hs
    have d8:(e.f0 == 8)=false:=by simpa using o8
    by_cases o9:e.f0=9
    ·rw [if_pos o9] at hs
     have d9:(e.f0 == 9)=true:=by simpa using o9
     obtain ⟨⟨p,q⟩,ht,hs_⟩:=Option.bind_eq_some_iff.1 hs
     clear hs
     try dsimp only at hs_
     have hs:=hs_
     have HN:=zq.mk ht
     clear ht hs_
     have HV:zq (zqf.f p q=some (r1,r2,r3,r4)):=⟨hs⟩
     clear hs o8 o9
     as_aux_lemma=>
      go_wp2_with (first|(go_at_call 74;(with_reducible refine(qp.calls k _ _ _ _ _ _ _ _ _ HT.out).mono ?_);rintro z w2 ⟨rfl,hb2⟩;have HB2:=zq.mk ((HB.out).trans (hb2.mono (zv (HB.out))));have MA2:=zq.mk (zf (MA0.out) hb2);have lMA2:=qf MA2.out;have ma2_0:w2.cell? ⟨g6,0,none⟩=some (.int .i64 a.f0):=(zo MA2.out 0).trans rfl;have ma2_1:w2.cell? ⟨g6,1,none⟩=some (.int .i64 a.f1):=(zo MA2.out 1).trans rfl;have ma2_2:w2.cell? ⟨g6,2,none⟩=some (.string a.f2):=(zo MA2.out 2).trans rfl;have MB2:=zq.mk (zf (MB0.out) hb2);have lMB2:=qf MB2.out;have mb2_0:w2.cell? ⟨g7,0,none⟩=some (.int .i64 b.f0):=(zo MB2.out 0).trans rfl;have mb2_1:w2.cell? ⟨g7,1,none⟩=some (.int .i64 b.f1):=(zo MB2.out 1).trans rfl;have mb2_2:w2.cell? ⟨g7,2,none⟩=some (.string b.f2):=(zo MB2.out 2).trans rfl;clear hb2;cases zz.kp HB2.out)|(go_at_call 79;(with_reducible refine(za.drawn (zji.calls _ _ _ _ _ HN.out)).mono ?_);rintro z w3 ⟨rfl,hb3⟩;have HB3:=zq.mk ((HB2.out).trans (hb3.mono (zv (HB2.out))));clear hb3;cases zz.kp HB3.out)|(go_at_call 75;(with_reducible refine(zqf.calls _ _ r1 r2 r3 r4 _ HV.out).mono ?_);rintro z w4 ⟨rfl,hb4⟩;have HB4:=zq.mk ((HB3.out).trans (hb4.mono (zv (HB3.out))));clear hb4;cases zz.kp HB4.out))
      have HVX:=(zl (zl (zl (zz.hz (HB4.out)) 0 (.int .i64 r1) rfl) 1 (.int .i64 r2) rfl) 2 (.string r3) rfl)
      refine bodyPost_ret (qm (rs := [.cell 4 30,.tmp 5]) rfl (by simp) (.cell (w.heap.size+1) 30 _ (0,0) _ rfl HVX huv rfl (by kernel_rfl) (.tmp .nil))) rfl ?_
      exact⟨rfl,(((zz.hr (HB4.out)).setCell (p:=⟨w.heap.size+1,0,none⟩) (by simp <;> omega) _).setCell (p:=⟨w.heap.size+1,1,none⟩) (by simp <;> omega) _).setCell (p:=⟨w.heap.size+1,2,none⟩) (by simp <;> omega) _⟩
    rw [if_neg o9] at hs
    have d9:(e.f0 == 9)=false:=by simpa using o9
    by_cases o10:e.f0=10
    ·rw [if_pos o10] at hs
     have d10:(e.f0 == 10)=true:=by simpa using o10
     obtain ⟨⟨p,q⟩,ht,hs_⟩:=Option.bind_eq_some_iff.1 hs
     clear hs
     try dsimp only at hs_
     have hs:=hs_
     have HN:=zq.mk ht
     clear ht hs_
     have HV:zq (zqf.f p q=some (r1,r2,r3,r4)):=⟨hs⟩
     clear hs o8 o9 o10
     as_aux_lemma=>
      go_wp2_with (first|(go_at_call 74;(with_reducible refine(qp.calls k _ _ _ _ _ _ _ _ _ HT.out).mono ?_);rintro z w2 ⟨rfl,hb2⟩;have HB2:=zq.mk ((HB.out).trans (hb2.mono (zv (HB.out))));have MA2:=zq.mk (zf (MA0.out) hb2);have lMA2:=qf MA2.out;have ma2_0:w2.cell? ⟨g6,0,none⟩=some (.int .i64 a.f0):=(zo MA2.out 0).trans rfl;have ma2_1:w2.cell? ⟨g6,1,none⟩=some (.int .i64 a.f1):=(zo MA2.out 1).trans rfl;have ma2_2:w2.cell? ⟨g6,2,none⟩=some (.string a.f2):=(zo MA2.out 2).trans rfl;have MB2:=zq.mk (zf (MB0.out) hb2);have lMB2:=qf MB2.out;have mb2_0:w2.cell? ⟨g7,0,none⟩=some (.int .i64 b.f0):=(zo MB2.out 0).trans rfl;have mb2_1:w2.cell? ⟨g7,1,none⟩=some (.int .i64 b.f1):=(zo MB2.out 1).trans rfl;have mb2_2:w2.cell? ⟨g7,2,none⟩=some (.string b.f2):=(zo MB2.out 2).trans rfl;clear hb2;cases zz.kp HB2.out)|(go_at_call 80;(with_reducible refine(za.drawn (zjg.calls _ _ _ _ _ HN.out)).mono ?_);rintro z w3 ⟨rfl,hb3⟩;have HB3:=zq.mk ((HB2.out).trans (hb3.mono (zv (HB2.out))));clear hb3;cases zz.kp HB3.out)|(go_at_call 75;(with_reducible refine(zqf.calls _ _ r1 r2 r3 r4 _ HV.out).mono ?_);rintro z w4 ⟨rfl,hb4⟩;have HB4:=zq.mk ((HB3.out).trans (hb4.mono (zv (HB3.out))));clear hb4;cases zz.kp HB4.out))
      have HVX:=(zl (zl (zl (zz.hz (HB4.out)) 0 (.int .i64 r1) rfl) 1 (.int .i64 r2) rfl) 2 (.string r3) rfl)
      refine bodyPost_ret (qm (rs := [.cell 4 30,.tmp 5]) rfl (by simp) (.cell (w.heap.size+1) 30 _ (0,0) _ rfl HVX huv rfl (by kernel_rfl) (.tmp .nil))) rfl ?_
      exact⟨rfl,(((zz.hr (HB4.out)).setCell (p:=⟨w.heap.size+1,0,none⟩) (by simp <;> omega) _).setCell (p:=⟨w.heap.size+1,1,none⟩) (by simp <;> omega) _).setCell (p:=⟨w.heap.size+1,2,none⟩) (by simp <;> omega) _⟩
    rw [if_neg o10] at hs
    have d10:(e.f0 == 10)=false:=by simpa using o10
    by_cases o11:e.f0=11
    ·rw [if_pos o11] at hs
     have d11:(e.f0 == 11)=true:=by simpa using o11
     obtain ⟨⟨p,q⟩,ht,hs_⟩:=Option.bind_eq_some_iff.1 hs
     clear hs
     try dsimp only at hs_
     have hs:=hs_
     have HN:=zq.mk ht
     clear ht hs_
     have HV:zq (zqf.f p q=some (r1,r2,r3,r4)):=⟨hs⟩
     clear hs o8 o9 o10 o11
     as_aux_lemma=>
      go_wp2_with (first|(go_at_call 74;(with_reducible refine(qp.calls k _ _ _ _ _ _ _ _ _ HT.out).mono ?_);rintro z w2 ⟨rfl,hb2⟩;have HB2:=zq.mk ((HB.out).trans (hb2.mono (zv (HB.out))));have MA2:=zq.mk (zf (MA0.out) hb2);have lMA2:=qf MA2.out;have ma2_0:w2.cell? ⟨g6,0,none⟩=some (.int .i64 a.f0):=(zo MA2.out 0).trans rfl;have ma2_1:w2.cell? ⟨g6,1,none⟩=some (.int .i64 a.f1):=(zo MA2.out 1).trans rfl;have ma2_2:w2.cell? ⟨g6,2,none⟩=some (.string a.f2):=(zo MA2.out 2).trans rfl;have MB2:=zq.mk (zf (MB0.out) hb2);have lMB2:=qf MB2.out;have mb2_0:w2.cell? ⟨g7,0,none⟩=some (.int .i64 b.f0):=(zo MB2.out 0).trans rfl;have mb2_1:w2.cell? ⟨g7,1,none⟩=some (.int .i64 b.f1):=(zo MB2.out 1).trans rfl;have mb2_2:w2.cell? ⟨g7,2,none⟩=some (.string b.f2):=(zo MB2.out 2).trans rfl;clear hb2;cases zz.kp HB2.out)|(go_at_call 81;(with_reducible refine(za.drawn (zq6.calls _ _ _ _ _ HN.out)).mono ?_);rintro z w3 ⟨rfl,hb3⟩;have HB3:=zq.mk ((HB2.out).trans (hb3.mono (zv (HB2.out))));clear hb3;cases zz.kp HB3.out)|(go_at_call 75;(with_reducible refine(zqf.calls _ _ r1 r2 r3 r4 _ HV.out).mono ?_);rintro z w4 ⟨rfl,hb4⟩;have HB4:=zq.mk ((HB3.out).trans (hb4.mono (zv (HB3.out))));clear hb4;cases zz.kp HB4.out))
      have HVX:=(zl (zl (zl (zz.hz (HB4.out)) 0 (.int .i64 r1) rfl) 1 (.int .i64 r2) rfl) 2 (.string r3) rfl)
      refine bodyPost_ret (qm (rs := [.cell 4 30,.tmp 5]) rfl (by simp) (.cell (w.heap.size+1) 30 _ (0,0) _ rfl HVX huv rfl (by kernel_rfl) (.tmp .nil))) rfl ?_
      exact⟨rfl,(((zz.hr (HB4.out)).setCell (p:=⟨w.heap.size+1,0,none⟩) (by simp <;> omega) _).setCell (p:=⟨w.heap.size+1,1,none⟩) (by simp <;> omega) _).setCell (p:=⟨w.heap.size+1,2,none⟩) (by simp <;> omega) _⟩
    rw [if_neg o11] at hs
    have d11:(e.f0 == 11)=false:=by simpa using o11
    obtain ⟨⟨p,q⟩,ht,hs_⟩:=Option.bind_eq_some_iff.1 hs
    clear hs
    try dsimp only at hs_
    have hs:=hs_
    have HN:=zq.mk ht
    clear ht hs_
    have HV:zq (zqf.f p q=some (r1,r2,r3,r4)):=⟨hs⟩
    clear hs o8 o9 o10 o11
    as_aux_lemma=>
     go_wp2_with (first|(go_at_call 74;(with_reducible refine(qp.calls k _ _ _ _ _ _ _ _ _ HT.out).mono ?_);rintro z w2 ⟨rfl,hb2⟩;have HB2:=zq.mk ((HB.out).trans (hb2.mono (zv (HB.out))));have MA2:=zq.mk (zf (MA0.out) hb2);have lMA2:=qf MA2.out;have ma2_0:w2.cell? ⟨g6,0,none⟩=some (.int .i64 a.f0):=(zo MA2.out 0).trans rfl;have ma2_1:w2.cell? ⟨g6,1,none⟩=some (.int .i64 a.f1):=(zo MA2.out 1).trans rfl;have ma2_2:w2.cell? ⟨g6,2,none⟩=some (.string a.f2):=(zo MA2.out 2).trans rfl;have MB2:=zq.mk (zf (MB0.out) hb2);have lMB2:=qf MB2.out;have mb2_0:w2.cell? ⟨g7,0,none⟩=some (.int .i64 b.f0):=(zo MB2.out 0).trans rfl;have mb2_1:w2.cell? ⟨g7,1,none⟩=some (.int .i64 b.f1):=(zo MB2.out 1).trans rfl;have mb2_2:w2.cell? ⟨g7,2,none⟩=some (.string b.f2):=(zo MB2.out 2).trans rfl;clear hb2;cases zz.kp HB2.out)|(go_at_call 82;(with_reducible refine(za.drawn (zjh.calls _ _ _ _ _ HN.out)).mono ?_);rintro z w3 ⟨rfl,hb3⟩;have HB3:=zq.mk ((HB2.out).trans (hb3.mono (zv (HB2.out))));clear hb3;cases zz.kp HB3.out)|(go_at_call 75;(with_reducible refine(zqf.calls _ _ r1 r2 r3 r4 _ HV.out).mono ?_);rintro z w4 ⟨rfl,hb4⟩;have HB4:=zq.mk ((HB3.out).trans (hb4.mono (zv (HB3.out))));clear hb4;cases zz.kp HB4.out))
     have HVX:=(zl (zl (zl (zz.hz (HB4.out)) 0 (.int .i64 r1) rfl) 1 (.int .i64 r2) rfl) 2 (.string r3) rfl)
     refine bodyPost_ret (qm (rs := [.cell 4 30,.tmp 5]) rfl (by simp) (.cell (w.heap.size+1) 30 _ (0,0) _ rfl HVX huv rfl (by kernel_rfl) (.tmp .nil))) rfl ?_
     exact⟨rfl,(((zz.hr (HB4.out)).setCell (p:=⟨w.heap.size+1,0,none⟩) (by simp <;> omega) _).setCell (p:=⟨w.heap.size+1,1,none⟩) (by simp <;> omega) _).setCell (p:=⟨w.heap.size+1,2,none⟩) (by simp <;> omega) _⟩
theorem zz.asked (row:List S30) (k:Nat) (A1:Option Addr) (c1:Nat):∀ (n:Nat) (e:S33) (A7:Option Addr) (c7:Nat) (r1 r2:Int) (r3:ByteArray) (r4:Int) (w:World),Kd.C k33 w A7 e.f5.length e.f5→e.f5.length≤c7→Kd.C k30 w A1 row.length row→zz.cm row k n e=some (r1,r2,r3,r4) →
  Calls Tryd.prog 52 #[.agg #[.int .i64 e.f0,.int .i64 e.f1.f0,.int .i64 e.f1.f1,.string e.f1.f2,.string e.f2,.string e.f3,.int .i64 e.f4,.slice A7 e.f5.length c7],.slice A1 row.length c1] w fun z w'=>z = .returned (.tuple #[.agg #[.int .i64 r1,.int .i64 r2,.string r3],.int .i64 r4])∧Below w.heap.size w w':=by
 intro n
 induction n with
 | zero=>
  intro e A7 c7 r1 r2 r3 r4 w hr hc hrow h
  cases h
 | succ n ih=>
 intro e A7 c7 r1 r2 r3 r4 w hr hc hrow h
 rw [zz.cm] at h
 by_cases h1:e.f0=1
 ·rw [if_pos h1] at h
  obtain ⟨rfl,rfl,rfl,rfl⟩:e.f1.f0=r1∧e.f1.f1=r2∧e.f1.f2=r3∧0=r4:=by simpa using h
  exact zz.const row k A1 c1 e A7 c7 0 0 e.f1.f2 0 w hr hrow h1
 rw [if_neg h1] at h
 by_cases h3:e.f0=3
 ·rw [if_pos h3] at h
  by_cases hi:0≤e.f4∧e.f4<row.length
  ·rw [if_pos hi] at h
   obtain ⟨rfl,rfl,rfl,rfl⟩:(zqh row e.f4).f0=r1∧(zqh row e.f4).f1=r2∧(zqh row e.f4).f2=r3∧0=r4:=by simpa using h
   exact zz.place row k A1 c1 e A7 c7 0 0 e.f1.f2 0 w hr hrow h3 hi.1 hi.2
  rw [if_neg hi] at h;cases h
 rw [if_neg h3] at h
 cases hx:e.f5 with
 | nil=>
  rw [hx] at h
  cases h
 | cons x r=>
  rw [hx] at h
  obtain ⟨⟨q1,q2,q3,q4⟩,hq,hs⟩:=Option.bind_eq_some_iff.1 h
  rw [← hx]
  exact zz.deep row k A1 c1 e A7 c7 r1 r2 r3 r4 w hr hrow (zz.cm row k n) (fun x A8 c8 q1 q2 q3 q4 W a b c d=>ih x A8 c8 q1 q2 q3 q4 W a b c d) hc h1 h3 x r hx q1 q2 q3 q4 hq hs
theorem zz.calls (k:Nat) (a0_0:Int) (a0_1:Int) (a0_2:Int) (a0_3:ByteArray) (a0_4:ByteArray) (a0_5:ByteArray) (a0_6:Int) (A0_7:Option Addr) (c0_7:Nat) (l0_7:List (S33)) (A1:Option Addr) (c1:Nat) (l1:List (S30)) (r1:Int) (r2:Int) (r3:ByteArray) (r4:Int) (w:World) (hr0_7:Kd.C k33 w A0_7 l0_7.length l0_7) (hc0_7:l0_7.length≤c0_7) (hr1:Kd.C k30 w A1 l1.length l1) (hc1:l1.length≤c1) (h:zz.f k a0_0 a0_1 a0_2 a0_3 a0_4 a0_5 a0_6 l0_7 l1=some (r1,r2,r3,r4)) :
  Calls Tryd.prog 52 #[.agg #[.int .i64 a0_0,.int .i64 a0_1,.int .i64 a0_2,.string a0_3,.string a0_4,.string a0_5,.int .i64 a0_6,.slice A0_7 l0_7.length c0_7],.slice A1 l1.length c1] w fun z w'=>z = .returned (.tuple #[.agg #[.int .i64 r1,.int .i64 r2,.string r3],.int .i64 r4])∧Below w.heap.size w w':=by
 exact zz.asked l1 k A1 c1 12 (zz.expr a0_0 a0_1 a0_2 a0_3 a0_4 a0_5 a0_6 l0_7) A0_7 c0_7 r1 r2 r3 r4 w hr0_7 hc0_7 hr1 h

end Go.Proofs.YtmfpaeajibeikaaDoor.PEvalHolds
