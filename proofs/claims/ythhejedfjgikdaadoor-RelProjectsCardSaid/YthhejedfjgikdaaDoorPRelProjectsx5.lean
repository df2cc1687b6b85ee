-- Written by wip/pp of this repo (over the kit's print, with additions of this session); Lean checks every line.
import Derived.Test.YthhejedfjgikdaaDoorPRelProjectsx3
import Derived.Test.YthhejedfjgikdaaDoorPRelProjectsx4
namespace Go.Proofs.YthhejedfjgikdaaDoor.PRelProjects
open Go.RowKit Go.Proofs.YthhejedfjgikdaaDoorW.PrintWords Go.Proofs.YthhejedfjgikdaaDoorW.PrintLast Go.Proofs.YthhejedfjgikdaaDoorW.PrintMore
attribute [local go_sem] zjh zjf zjq zjp zq4 zq3 zjg zje   -- for this text's walks alone
set_option linter.unusedVariables false
set_option linter.unusedSimpArgs false

/-! ### zxf: function 136 -/
def zxf.f (a0:Int):Option (Int × Int):=if a0<0 then(some (0,2)) else (if a0 > 2 then(some (0,2)) else (some (wrap64 (2 - a0),0)))
set_option maxHeartbeats 8000000 in
set_option maxRecDepth 100000 in
theorem zxf.calls (a0:Int) (r1:Int) (r2:Int) (w:World) (h:zxf.f a0=some (r1,r2)) :
  Calls Tryd.prog 136 #[.int .i64 a0] w fun e w'=>e = .returned (.tuple #[.int .i64 r1,.int .i64 r2])∧zu w w':=by
 have H:(if a0<0 then(some (0,2)) else (if a0 > 2 then(some (0,2)) else (some (wrap64 (2 - a0),0))))=some (r1,r2):=h
 clear h
 by_cases c2:a0<0
 ·rw [if_pos c2] at H
  have c2b0:=decide_eq_true c2
  clear c2
  simp only [Option.some.injEq,Prod.mk.injEq] at H
  obtain ⟨rfl,rfl⟩:=H
  go_enter Tryd.func136,Tryd.ntmps136
  go_wp2
  go_ret2
  exact⟨by first|rfl|(simp;done)|(simp [*];done),by repeat(first|exact zu.refl _|apply zu.step)⟩
 rw [if_neg c2] at H
 have c2b0:=decide_eq_false c2
 clear c2
 by_cases c3:a0 > 2
 ·rw [if_pos c3] at H
  have c3b0:=decide_eq_true c3
  clear c3
  simp only [Option.some.injEq,Prod.mk.injEq] at H
  obtain ⟨rfl,rfl⟩:=H
  go_enter Tryd.func136,Tryd.ntmps136
  go_wp2
  go_ret2
  exact⟨by first|rfl|(simp;done)|(simp [*];done),by repeat(first|exact zu.refl _|apply zu.step)⟩
 rw [if_neg c3] at H
 have c3b0:=decide_eq_false c3
 clear c3
 simp only [Option.some.injEq,Prod.mk.injEq] at H
 obtain ⟨rfl,rfl⟩:=H
 go_enter Tryd.func136,Tryd.ntmps136
 go_wp2
 go_ret2
 exact⟨by first|rfl|(simp;done)|(simp [*];done),by repeat(first|exact zu.refl _|apply zu.step)⟩

/-! ### zo: function 137, by hand -/
-- HAND rounds=1 making=1 func=1 imports=Derived.Deep.QuietTactic,Derived.BigQuiet,Derived.Deep.RegionHeld3,Derived.Deep.RegionWith
theorem zo.lift {f:Nat} {xs:Array Value} {r:Ending} {W0 W:World} (hb:Below W0.heap.size W0 W) (h:Calls Tryd.prog f xs W fun e w'=>e=r∧Below W.heap.size W w'):Calls Tryd.prog f xs W fun e w'=>e=r∧Below W0.heap.size W0 w':=h.mono fun e w' ⟨h1,h2⟩=>⟨h1,hb.trans (h2.mono hb.size)⟩
theorem zo.drawn {f:Nat} {xs:Array Value} {r:Ending} {W:World} (h:Calls Tryd.prog f xs W fun e w'=>e=r∧zu W w'):Calls Tryd.prog f xs W fun e w'=>e=r∧Below W.heap.size W w':=h.mono fun e w' ⟨h1,h2⟩=>⟨h1,h2.below⟩
def zo.odd (k:Int):Bool:=(k != 0) && (k != 2)
def zo.of (F:Int→Int→Option (Int × Int)) (a b:S38):Option (Int × Int × ByteArray × Int):=
 if(zo.odd a.f0 || zo.odd b.f0)=true then some (0,0,⟨#[]⟩,12) else if a.f0=0∨b.f0=0 then some (0,0,⟨#[]⟩,0) else
  (F a.f1 b.f1).bind fun p=>if p.2=0 then some (2,p.1,⟨#[]⟩,0) else some (0,0,⟨#[]⟩,p.2)
def zo.f (_k:Nat) (_a:Int):Option Bool:=none
theorem zo.mono:∀ a0 k,LeO (zo.f k a0) (zo.f (k+1) a0):=fun _ _=>LeO.refl _
theorem zo.mono_of {F G:Int→Int→Option (Int × Int)} (h:∀ x y,LeO (F x y) (G x y)) (a b:S38):LeO (zo.of F a b) (zo.of G a b):=by
 unfold zo.of
 exact LeO.ite (LeO.refl _) (LeO.ite (LeO.refl _) (LeO.bind (h _ _) (fun _=>LeO.refl _)))
set_option maxRecDepth 100000 in
theorem zo.odd_at (a:S38) (W:World):Calls Tryd.prog 158 #[.agg #[.int .i64 a.f0,.int .i64 a.f1,.string a.f2]] W fun e w'=>e = .returned (.bool (zo.odd a.f0))∧Below W.heap.size W w':=by
 by_cases h0:a.f0=0
 ·have d0:(a.f0 != 0)=false:=by simpa using h0
  have ho:zo.odd a.f0=false:=by simp [zo.odd,h0]
  rw [ho]
  clear h0 ho
  go_enter Tryd.func158,Tryd.ntmps158
  go_wp2
  go_ret
  exact⟨rfl,zp (Below.refl _ _) _⟩
 have d0:(a.f0 != 0)=true:=by simpa using h0
 by_cases h2:a.f0=2
 ·have d2:(a.f0 != 2)=false:=by simpa using h2
  have ho:zo.odd a.f0=false:=by simp [zo.odd,h2]
  rw [ho]
  clear h0 h2 ho
  go_enter Tryd.func158,Tryd.ntmps158
  go_wp2
  go_ret
  exact⟨rfl,zp (Below.refl _ _) _⟩
 have d2:(a.f0 != 2)=true:=by simpa using h2
 have ho:zo.odd a.f0=true:=by simp [zo.odd,h0,h2]
 rw [ho]
 clear h0 h2 ho
 go_enter Tryd.func158,Tryd.ntmps158
 go_wp2
 go_ret
 exact⟨rfl,zp (Below.refl _ _) _⟩
abbrev zo.w0 (a b:S38) (w:World):World:=((w.alloc (.cells #[.int .i64 a.f0,.int .i64 a.f1,.string a.f2] 38)).alloc (.cells #[.int .i64 b.f0,.int .i64 b.f1,.string b.f2] 38)).alloc (.cells #[.int .i64 0,.int .i64 0,.string ⟨#[]⟩] 38)
structure zo.Kp (a b:S38) (w W:World):Prop where mk :: (c0:W.cell? ⟨w.heap.size,0,none⟩=some (.int .i64 a.f0)) (c1:W.cell? ⟨w.heap.size,1,none⟩=some (.int .i64 a.f1)) (c2:W.cell? ⟨w.heap.size,2,none⟩=some (.string a.f2)) (c3:W.cell? ⟨w.heap.size+1,0,none⟩=some (.int .i64 b.f0)) (c4:W.cell? ⟨w.heap.size+1,1,none⟩=some (.int .i64 b.f1)) (c5:W.cell? ⟨w.heap.size+1,2,none⟩=some (.string b.f2)) (c6:W.cell? ⟨w.heap.size+1+1,0,none⟩=some (.int .i64 0)) (c7:W.cell? ⟨w.heap.size+1+1,1,none⟩=some (.int .i64 0)) (c8:W.cell? ⟨w.heap.size+1+1,2,none⟩=some (.string ⟨#[]⟩)) (c9:W.frozen? ⟨w.heap.size+1+1,0,none⟩=false) (c10:W.frozen? ⟨w.heap.size+1+1,1,none⟩=false) (c11:W.frozen? ⟨w.heap.size+1+1,2,none⟩=false)
theorem zo.zq6 {a b:S38} {w:World} : (zo.w0 a b w).heap.size=w.heap.size+1+1+1:=by simp [zo.w0]
theorem zo.hz {a b:S38} {w W:World} (hb:Below (zo.w0 a b w).heap.size (zo.w0 a b w) W):W.heap[w.heap.size+1+1]? = some (.cells #[.int .i64 0,.int .i64 0,.string ⟨#[]⟩] 38 (0,0)):=by
 have q_:((w.alloc (.cells #[.int .i64 a.f0,.int .i64 a.f1,.string a.f2] 38)).alloc (.cells #[.int .i64 b.f0,.int .i64 b.f1,.string b.f2] 38)).heap.size=w.heap.size+1+1:=by simp
 have h:=zj5 ((w.alloc (.cells #[.int .i64 a.f0,.int .i64 a.f1,.string a.f2] 38)).alloc (.cells #[.int .i64 b.f0,.int .i64 b.f1,.string b.f2] 38)) (.cells #[.int .i64 0,.int .i64 0,.string ⟨#[]⟩] 38)
 rw [q_] at h
 exact za h hb
theorem zo.hr {a b:S38} {w W:World} (hb:Below (zo.w0 a b w).heap.size (zo.w0 a b w) W):Below w.heap.size w W:=by
 have h0:Below w.heap.size w (zo.w0 a b w):=zp (zp (zp (Below.refl _ _) _) _) _
 exact h0.trans (hb.mono h0.size)
theorem zo.kp {a b:S38} {w W:World} (hb:Below (zo.w0 a b w).heap.size (zo.w0 a b w) W):zo.Kp a b w W:=by
 have hs:=hb.size
 rw [zo.zq6] at hs
 exact⟨qq hb (by simp [go_sem]),qq hb (by simp [go_sem]),qq hb (by simp [go_sem]),qq hb (by simp [go_sem]),qq hb (by simp [go_sem]),qq hb (by simp [go_sem]),qq hb (by simp [go_sem]),qq hb (by simp [go_sem]),qq hb (by simp [go_sem]),qy (zo.hz hb) 0,qy (zo.hz hb) 1,qy (zo.hz hb) 2⟩
set_option maxRecDepth 100000 in
set_option maxHeartbeats 4000000 in
theorem zo.at_ (F:Int→Int→Option (Int × Int)) (q:Nat) (hq:q=138∨q=140∨q=141∨q=142∨q=143∨q=144) (hF:∀ x y r c (W:World),F x y=some (r,c)→Calls Tryd.prog q #[.int .i64 x,.int .i64 y] W fun e w'=>e = .returned (.tuple #[.int .i64 r,.int .i64 c])∧Below W.heap.size W w')
  (a b:S38) (r1 r2:Int) (r3:ByteArray) (r4:Int) (w:World) (h:zo.of F a b=some (r1,r2,r3,r4)) :
  Calls Tryd.prog 137 #[.func (.func q) #[] #[],.agg #[.int .i64 a.f0,.int .i64 a.f1,.string a.f2],.agg #[.int .i64 b.f0,.int .i64 b.f1,.string b.f2]] w fun e w'=>e = .returned (.tuple #[.agg #[.int .i64 r1,.int .i64 r2,.string r3],.int .i64 r4])∧Below w.heap.size w w':=by
 have huv:=Tryd.underlying38
 have OA:=zq.mk (zo.odd_at a)
 have OB:=zq.mk (zo.odd_at b)
 have HF:=zq.mk hF
 clear hF
 unfold zo.of at h
 generalize hqa:zo.odd a.f0=qa at *
 generalize hqb:zo.odd b.f0=qb at *
 clear hqa hqb
 cases qa with
 | true=>
  rw [Bool.true_or,if_pos rfl] at h
  obtain ⟨rfl,rfl,rfl,rfl⟩:0=r1∧0=r2∧(⟨#[]⟩:ByteArray)=r3∧12=r4:=by simpa using h
  clear h
  go_enter Tryd.func137,Tryd.ntmps137
  go_wp2_with (go_at_call 158;(with_reducible refine(zo.lift (W0:=zo.w0 a b w) (Below.refl _ _) (OA.out _)).mono ?_);rintro e w1 ⟨rfl,hb1⟩;have HB1:=zq.mk hb1;cases zo.kp hb1;clear hb1)
  have HVX:=(zr (zr (zr (zo.hz HB1.out) 0 (.int .i64 0) rfl) 1 (.int .i64 0) rfl) 2 (.string ⟨#[]⟩) rfl)
  refine bodyPost_ret (qg (rs := [.cell 6 38,.tmp 7]) rfl (by simp) (.cell (w.heap.size+1+1) 38 _ (0,0) _ rfl HVX huv rfl (by kernel_rfl) (.tmp .nil))) rfl ?_
  exact⟨rfl,(((zo.hr HB1.out).setCell (p:=⟨w.heap.size+1+1,0,none⟩) (by simp <;> omega) _).setCell (p:=⟨w.heap.size+1+1,1,none⟩) (by simp <;> omega) _).setCell (p:=⟨w.heap.size+1+1,2,none⟩) (by simp <;> omega) _⟩
 | false=>
  cases qb with
  | true=>
   rw [Bool.false_or,if_pos rfl] at h
   obtain ⟨rfl,rfl,rfl,rfl⟩:0=r1∧0=r2∧(⟨#[]⟩:ByteArray)=r3∧12=r4:=by simpa using h
   clear h
   go_enter Tryd.func137,Tryd.ntmps137
   go_wp2_with (first|(go_at_call 158;(with_reducible refine(zo.lift (W0:=zo.w0 a b w) (Below.refl _ _) (OA.out _)).mono ?_);rintro e w1 ⟨rfl,hb1⟩;have HB1:=zq.mk hb1;cases zo.kp hb1;clear hb1)|(go_at_call 158;(with_reducible refine(zo.lift (HB1.out) (OB.out _)).mono ?_);rintro e w2 ⟨rfl,hb2⟩;have HB2:=zq.mk hb2;cases zo.kp hb2;clear hb2))
   have HVX:=(zr (zr (zr (zo.hz HB2.out) 0 (.int .i64 0) rfl) 1 (.int .i64 0) rfl) 2 (.string ⟨#[]⟩) rfl)
   refine bodyPost_ret (qg (rs := [.cell 6 38,.tmp 7]) rfl (by simp) (.cell (w.heap.size+1+1) 38 _ (0,0) _ rfl HVX huv rfl (by kernel_rfl) (.tmp .nil))) rfl ?_
   exact⟨rfl,(((zo.hr HB2.out).setCell (p:=⟨w.heap.size+1+1,0,none⟩) (by simp <;> omega) _).setCell (p:=⟨w.heap.size+1+1,1,none⟩) (by simp <;> omega) _).setCell (p:=⟨w.heap.size+1+1,2,none⟩) (by simp <;> omega) _⟩
  | false=>
   rw [Bool.false_or,if_neg (by decide)] at h
   by_cases c0:a.f0=0
   ·rw [if_pos (.inl c0)] at h
    obtain ⟨rfl,rfl,rfl,rfl⟩:0=r1∧0=r2∧(⟨#[]⟩:ByteArray)=r3∧0=r4:=by simpa using h
    have d0:(a.f0 == 0)=true:=by simpa using c0
    clear h c0
    go_enter Tryd.func137,Tryd.ntmps137
    go_wp2_with (first|(go_at_call 158;(with_reducible refine(zo.lift (W0:=zo.w0 a b w) (Below.refl _ _) (OA.out _)).mono ?_);rintro e w1 ⟨rfl,hb1⟩;have HB1:=zq.mk hb1;cases zo.kp hb1;clear hb1)|(go_at_call 158;(with_reducible refine(zo.lift (HB1.out) (OB.out _)).mono ?_);rintro e w2 ⟨rfl,hb2⟩;have HB2:=zq.mk hb2;cases zo.kp hb2;clear hb2))
    have HVX:=(zr (zr (zr (zo.hz HB2.out) 0 (.int .i64 0) rfl) 1 (.int .i64 0) rfl) 2 (.string ⟨#[]⟩) rfl)
    refine bodyPost_ret (qg (rs := [.cell 6 38,.tmp 7]) rfl (by simp) (.cell (w.heap.size+1+1) 38 _ (0,0) _ rfl HVX huv rfl (by kernel_rfl) (.tmp .nil))) rfl ?_
    exact⟨rfl,(((zo.hr HB2.out).setCell (p:=⟨w.heap.size+1+1,0,none⟩) (by simp <;> omega) _).setCell (p:=⟨w.heap.size+1+1,1,none⟩) (by simp <;> omega) _).setCell (p:=⟨w.heap.size+1+1,2,none⟩) (by simp <;> omega) _⟩
   have d0:(a.f0 == 0)=false:=by simpa using c0
   by_cases c1:b.f0=0
   ·rw [if_pos (.inr c1)] at h
    obtain ⟨rfl,rfl,rfl,rfl⟩:0=r1∧0=r2∧(⟨#[]⟩:ByteArray)=r3∧0=r4:=by simpa using h
    have d1:(b.f0 == 0)=true:=by simpa using c1
    clear h c0 c1
    go_enter Tryd.func137,Tryd.ntmps137
    go_wp2_with (first|(go_at_call 158;(with_reducible refine(zo.lift (W0:=zo.w0 a b w) (Below.refl _ _) (OA.out _)).mono ?_);rintro e w1 ⟨rfl,hb1⟩;have HB1:=zq.mk hb1;cases zo.kp hb1;clear hb1)|(go_at_call 158;(with_reducible refine(zo.lift (HB1.out) (OB.out _)).mono ?_);rintro e w2 ⟨rfl,hb2⟩;have HB2:=zq.mk hb2;cases zo.kp hb2;clear hb2))
    have HVX:=(zr (zr (zr (zo.hz HB2.out) 0 (.int .i64 0) rfl) 1 (.int .i64 0) rfl) 2 (.string ⟨#[]⟩) rfl)
    refine bodyPost_ret (qg (rs := [.cell 6 38,.tmp 7]) rfl (by simp) (.cell (w.heap.size+1+1) 38 _ (0,0) _ rfl HVX huv rfl (by kernel_rfl) (.tmp .nil))) rfl ?_
    exact⟨rfl,(((zo.hr HB2.out).setCell (p:=⟨w.heap.size+1+1,0,none⟩) (by simp <;> omega) _).setCell (p:=⟨w.heap.size+1+1,1,none⟩) (by simp <;> omega) _).setCell (p:=⟨w.heap.size+1+1,2,none⟩) (by simp <;> omega) _⟩
   have d1:(b.f0 == 0)=false:=by simpa using c1
   rw [if_neg (by rintro (h_|h_) <;> first|exact c0 h_|exact c1 h_)] at h
   obtain ⟨⟨x,c⟩,hx,h⟩:=Option.bind_eq_some_iff.1 h
   have HX:=zq.mk hx
   clear hx c0 c1
   by_cases z:c=0
   ·rw [if_pos z] at h
    obtain ⟨rfl,rfl,rfl,rfl⟩:2=r1∧x=r2∧(⟨#[]⟩:ByteArray)=r3∧0=r4:=by simpa using h
    subst z
    clear h
    rcases hq with rfl|rfl|rfl|rfl|rfl|rfl
    all_goals
     go_enter Tryd.func137,Tryd.ntmps137
     go_wp2_with (first|(go_at_call 158;(with_reducible refine(zo.lift (W0:=zo.w0 a b w) (Below.refl _ _) (OA.out _)).mono ?_);rintro e w1 ⟨rfl,hb1⟩;have HB1:=zq.mk hb1;cases zo.kp hb1;clear hb1)|(go_at_call 158;(with_reducible refine(zo.lift (HB1.out) (OB.out _)).mono ?_);rintro e w2 ⟨rfl,hb2⟩;have HB2:=zq.mk hb2;cases zo.kp hb2;clear hb2)|((with_reducible refine(zo.lift (HB2.out) (HF.out _ _ _ _ _ HX.out)).mono ?_);rintro e w3 ⟨rfl,hb3⟩;have HB3:=zq.mk hb3;cases zo.kp hb3;clear hb3))
     have HVX:=(zr (zr (zr (zo.hz HB3.out) 0 (.int .i64 2) rfl) 1 (.int .i64 x) rfl) 2 (.string ⟨#[]⟩) rfl)
     refine bodyPost_ret (qg (rs := [.cell 6 38,.tmp 7]) rfl (by simp) (.cell (w.heap.size+1+1) 38 _ (0,0) _ rfl HVX huv rfl (by kernel_rfl) (.tmp .nil))) rfl ?_
     exact⟨rfl,(((zo.hr HB3.out).setCell (p:=⟨w.heap.size+1+1,0,none⟩) (by simp <;> omega) _).setCell (p:=⟨w.heap.size+1+1,1,none⟩) (by simp <;> omega) _).setCell (p:=⟨w.heap.size+1+1,2,none⟩) (by simp <;> omega) _⟩
   rw [if_neg z] at h
   obtain ⟨rfl,rfl,rfl,rfl⟩:0=r1∧0=r2∧(⟨#[]⟩:ByteArray)=r3∧c=r4:=by simpa using h
   have dz:(c != 0)=true:=by simpa using z
   clear h z
   rcases hq with rfl|rfl|rfl|rfl|rfl|rfl
   all_goals
    go_enter Tryd.func137,Tryd.ntmps137
    go_wp2_with (first|(go_at_call 158;(with_reducible refine(zo.lift (W0:=zo.w0 a b w) (Below.refl _ _) (OA.out _)).mono ?_);rintro e w1 ⟨rfl,hb1⟩;have HB1:=zq.mk hb1;cases zo.kp hb1;clear hb1)|(go_at_call 158;(with_reducible refine(zo.lift (HB1.out) (OB.out _)).mono ?_);rintro e w2 ⟨rfl,hb2⟩;have HB2:=zq.mk hb2;cases zo.kp hb2;clear hb2)|((with_reducible refine(zo.lift (HB2.out) (HF.out _ _ _ _ _ HX.out)).mono ?_);rintro e w3 ⟨rfl,hb3⟩;have HB3:=zq.mk hb3;cases zo.kp hb3;clear hb3))
    have HVX:=(zr (zr (zr (zo.hz HB3.out) 0 (.int .i64 0) rfl) 1 (.int .i64 0) rfl) 2 (.string ⟨#[]⟩) rfl)
    refine bodyPost_ret (qg (rs := [.cell 6 38,.tmp 7]) rfl (by simp) (.cell (w.heap.size+1+1) 38 _ (0,0) _ rfl HVX huv rfl (by kernel_rfl) (.tmp .nil))) rfl ?_
    exact⟨rfl,(((zo.hr HB3.out).setCell (p:=⟨w.heap.size+1+1,0,none⟩) (by simp <;> omega) _).setCell (p:=⟨w.heap.size+1+1,1,none⟩) (by simp <;> omega) _).setCell (p:=⟨w.heap.size+1+1,2,none⟩) (by simp <;> omega) _⟩

/-! ### zqr: function 160 -/
def zqr.f (a0:Int) (a1:Bool):Option (Int × Int):=if a1=true then(some (a0,0)) else (some (0,10))
set_option maxHeartbeats 8000000 in
set_option maxRecDepth 100000 in
theorem zqr.calls (a0:Int) (a1:Bool) (r1:Int) (r2:Int) (w:World) (h:zqr.f a0 a1=some (r1,r2)) :
  Calls Tryd.prog 160 #[.int .i64 a0,.bool a1] w fun e w'=>e = .returned (.tuple #[.int .i64 r1,.int .i64 r2])∧zu w w':=by
 have H:(if a1=true then(some (a0,0)) else (some (0,10)))=some (r1,r2):=h
 clear h
 by_cases c3:a1=true
 ·subst c3
  rw [if_pos rfl] at H
  simp only [Option.some.injEq,Prod.mk.injEq] at H
  obtain ⟨rfl,rfl⟩:=H
  go_enter Tryd.func160,Tryd.ntmps160
  go_wp2
  go_ret2
  exact⟨by first|rfl|(simp;done)|(simp [*];done),by repeat(first|exact zu.refl _|apply zu.step)⟩
 replace c3:=Bool.eq_false_iff.mpr c3
 subst c3
 rw [if_neg (show ¬ (false=true) by decide)] at H
 simp only [Option.some.injEq,Prod.mk.injEq] at H
 obtain ⟨rfl,rfl⟩:=H
 go_enter Tryd.func160,Tryd.ntmps160
 go_wp2
 go_ret2
 exact⟨by first|rfl|(simp;done)|(simp [*];done),by repeat(first|exact zu.refl _|apply zu.step)⟩

/-! ### zxu: function 140 -/
def zxu.f (a0:Int) (a1:Int):Option (Int × Int):=(zqr.f (wrap64 (a0+a1)) (decide ((Go.bits .and .i64 (Go.bits .xor .i64 a0 (wrap64 (a0+a1))) (Go.bits .xor .i64 a1 (wrap64 (a0+a1)))) ≥ 0))).bind fun bt147=>(some (bt147.1,bt147.2))
set_option maxHeartbeats 8000000 in
set_option maxRecDepth 100000 in
theorem zxu.calls (a0:Int) (a1:Int) (r1:Int) (r2:Int) (w:World) (h:zxu.f a0 a1=some (r1,r2)) :
  Calls Tryd.prog 140 #[.int .i64 a0,.int .i64 a1] w fun e w'=>e = .returned (.tuple #[.int .i64 r1,.int .i64 r2])∧zu w w':=by
 have H:((zqr.f (wrap64 (a0+a1)) (decide ((Go.bits .and .i64 (Go.bits .xor .i64 a0 (wrap64 (a0+a1))) (Go.bits .xor .i64 a1 (wrap64 (a0+a1)))) ≥ 0))).bind fun bt147=>(some (bt147.1,bt147.2)))=some (r1,r2):=h
 clear h
 replace H:=Option.bind_eq_some_iff.mp H
 obtain ⟨⟨t147,t148⟩,A30,H⟩:=H
 replace H:(some (t147,t148))=some (r1,r2):=H
 have A3:=zq.mk A30
 clear A30
 simp only [Option.some.injEq,Prod.mk.injEq] at H
 obtain ⟨rfl,rfl⟩:=H
 go_enter Tryd.func140,Tryd.ntmps140
 go_wp2_with (first|((with_reducible refine zl (f:=160) rfl ?_);refine qu (some 19) rfl rfl Tryd.func160 (by kernel_rfl) rfl #[.int .i64 (wrap64 (a0+a1)),.bool (decide ((Go.bits .and .i64 (Go.bits .xor .i64 a0 (wrap64 (a0+a1))) (Go.bits .xor .i64 a1 (wrap64 (a0+a1)))) ≥ 0))] rfl gs ?_;(with_reducible refine(zqr.calls (wrap64 (a0+a1)) (decide ((Go.bits .and .i64 (Go.bits .xor .i64 a0 (wrap64 (a0+a1))) (Go.bits .xor .i64 a1 (wrap64 (a0+a1)))) ≥ 0)) t147 t148 _ A3.out).mono ?_);rintro e w' ⟨rfl,⟨nd,rfl⟩⟩;refine⟨_,rfl,?_⟩))
 go_ret2
 exact⟨by first|rfl|(simp;done)|(simp [*];done),by repeat(first|exact zu.refl _|apply zu.step)⟩

/-! ### zxr: function 141 -/
def zxr.f (a0:Int) (a1:Int):Option (Int × Int):=(zqr.f (wrap64 (a0 - a1)) (decide ((Go.bits .and .i64 (Go.bits .xor .i64 a0 a1) (Go.bits .xor .i64 a0 (wrap64 (a0 - a1)))) ≥ 0))).bind fun bt149=>(some (bt149.1,bt149.2))
set_option maxHeartbeats 8000000 in
set_option maxRecDepth 100000 in
theorem zxr.calls (a0:Int) (a1:Int) (r1:Int) (r2:Int) (w:World) (h:zxr.f a0 a1=some (r1,r2)) :
  Calls Tryd.prog 141 #[.int .i64 a0,.int .i64 a1] w fun e w'=>e = .returned (.tuple #[.int .i64 r1,.int .i64 r2])∧zu w w':=by
 have H:((zqr.f (wrap64 (a0 - a1)) (decide ((Go.bits .and .i64 (Go.bits .xor .i64 a0 a1) (Go.bits .xor .i64 a0 (wrap64 (a0 - a1)))) ≥ 0))).bind fun bt149=>(some (bt149.1,bt149.2)))=some (r1,r2):=h
 clear h
 replace H:=Option.bind_eq_some_iff.mp H
 obtain ⟨⟨t149,t150⟩,A30,H⟩:=H
 replace H:(some (t149,t150))=some (r1,r2):=H
 have A3:=zq.mk A30
 clear A30
 simp only [Option.some.injEq,Prod.mk.injEq] at H
 obtain ⟨rfl,rfl⟩:=H
 go_enter Tryd.func141,Tryd.ntmps141
 go_wp2_with (first|((with_reducible refine zl (f:=160) rfl ?_);refine qu (some 19) rfl rfl Tryd.func160 (by kernel_rfl) rfl #[.int .i64 (wrap64 (a0 - a1)),.bool (decide ((Go.bits .and .i64 (Go.bits .xor .i64 a0 a1) (Go.bits .xor .i64 a0 (wrap64 (a0 - a1)))) ≥ 0))] rfl gs ?_;(with_reducible refine(zqr.calls (wrap64 (a0 - a1)) (decide ((Go.bits .and .i64 (Go.bits .xor .i64 a0 a1) (Go.bits .xor .i64 a0 (wrap64 (a0 - a1)))) ≥ 0)) t149 t150 _ A3.out).mono ?_);rintro e w' ⟨rfl,⟨nd,rfl⟩⟩;refine⟨_,rfl,?_⟩))
 go_ret2
 exact⟨by first|rfl|(simp;done)|(simp [*];done),by repeat(first|exact zu.refl _|apply zu.step)⟩

/-! ### zjm: function 159 -/
def zjm.f  : Option (Int):=some (wrap64 (1 * 9223372036854775808))
set_option maxHeartbeats 8000000 in
set_option maxRecDepth 100000 in
theorem zjm.calls  (r:Int) (w:World) (h:zjm.f  = some r) :
  Calls Tryd.prog 159 #[] w fun e w'=>e = .returned (.int .i64 r)∧zu w w':=by
 have H:(some (wrap64 (1 * 9223372036854775808)))=some r:=h
 clear h
 obtain rfl:=Option.some.inj H
 go_enter Tryd.func159,Tryd.ntmps159
 go_wp2
 go_ret
 exact⟨by first|rfl|(simp;done)|(simp [*];done),by repeat(first|exact zu.refl _|apply zu.step)⟩

/-! ### zjx: function 139 -/
def zjx.f (a0:Int):Option (Int × Int):=(zjm.f).bind fun t151=>(if a0=t151 then((zqr.f a0 false).bind fun bt152=>(some (bt152.1,bt152.2))) else ((zqr.f (wrap64 (-a0)) true).bind fun bt154=>(some (bt154.1,bt154.2))))
set_option maxHeartbeats 8000000 in
set_option maxRecDepth 100000 in
theorem zjx.calls (a0:Int) (r1:Int) (r2:Int) (w:World) (h:zjx.f a0=some (r1,r2)) :
  Calls Tryd.prog 139 #[.int .i64 a0] w fun e w'=>e = .returned (.tuple #[.int .i64 r1,.int .i64 r2])∧zu w w':=by
 have H:((zjm.f).bind fun t151=>(if a0=t151 then((zqr.f a0 false).bind fun bt152=>(some (bt152.1,bt152.2))) else ((zqr.f (wrap64 (-a0)) true).bind fun bt154=>(some (bt154.1,bt154.2)))))=some (r1,r2):=h
 clear h
 replace H:=Option.bind_eq_some_iff.mp H
 obtain ⟨t151,A20,H⟩:=H
 replace H:(if a0=t151 then((zqr.f a0 false).bind fun bt152=>(some (bt152.1,bt152.2))) else ((zqr.f (wrap64 (-a0)) true).bind fun bt154=>(some (bt154.1,bt154.2))))=some (r1,r2):=H
 have A2:=zq.mk A20
 clear A20
 by_cases c3:a0=t151
 ·rw [if_pos c3] at H
  have c3b0:(a0 == t151)=true:=beq_iff_eq.mpr c3
  have c3b1:(a0 != t151)=false:=bne_eq_false_iff_eq.mpr c3
  clear c3
  replace H:=Option.bind_eq_some_iff.mp H
  obtain ⟨⟨t152,t153⟩,A40,H⟩:=H
  replace H:(some (t152,t153))=some (r1,r2):=H
  have A4:=zq.mk A40
  clear A40
  simp only [Option.some.injEq,Prod.mk.injEq] at H
  obtain ⟨rfl,rfl⟩:=H
  go_enter Tryd.func139,Tryd.ntmps139
  go_wp2_with (first|((with_reducible refine zl (f:=159) rfl ?_);refine qu (some 5) rfl rfl Tryd.func159 (by kernel_rfl) rfl #[] rfl gs ?_;(with_reducible refine(zjm.calls  t151 _ A2.out).mono ?_);rintro e w' ⟨rfl,⟨nd,rfl⟩⟩;refine⟨_,rfl,?_⟩)|((with_reducible refine zl (f:=160) rfl ?_);refine qu (some 8) rfl rfl Tryd.func160 (by kernel_rfl) rfl #[.int .i64 a0,.bool false] rfl gs ?_;(with_reducible refine(zqr.calls a0 false t152 t153 _ A4.out).mono ?_);rintro e w' ⟨rfl,⟨nd,rfl⟩⟩;refine⟨_,rfl,?_⟩))
  go_ret2
  exact⟨by first|rfl|(simp;done)|(simp [*];done),by repeat(first|exact zu.refl _|apply zu.step)⟩
 rw [if_neg c3] at H
 have c3b0:(a0 == t151)=false:=beq_eq_false_iff_ne.mpr c3
 have c3b1:(a0 != t151)=true:=bne_iff_ne.mpr c3
 replace H:=Option.bind_eq_some_iff.mp H
 obtain ⟨⟨t154,t155⟩,A50,H⟩:=H
 replace H:(some (t154,t155))=some (r1,r2):=H
 have A5:=zq.mk A50
 clear A50
 simp only [Option.some.injEq,Prod.mk.injEq] at H
 obtain ⟨rfl,rfl⟩:=H
 go_enter Tryd.func139,Tryd.ntmps139
 go_wp2_with (first|((with_reducible refine zl (f:=159) rfl ?_);refine qu (some 5) rfl rfl Tryd.func159 (by kernel_rfl) rfl #[] rfl gs ?_;(with_reducible refine(zjm.calls  t151 _ A2.out).mono ?_);rintro e w' ⟨rfl,⟨nd,rfl⟩⟩;refine⟨_,rfl,?_⟩)|((with_reducible refine zl (f:=160) rfl ?_);refine qu (some 13) rfl rfl Tryd.func160 (by kernel_rfl) rfl #[.int .i64 (wrap64 (-a0)),.bool true] rfl gs ?_;(with_reducible refine(zqr.calls (wrap64 (-a0)) true t154 t155 _ A5.out).mono ?_);rintro e w' ⟨rfl,⟨nd,rfl⟩⟩;refine⟨_,rfl,?_⟩))
 go_ret2
 exact⟨by first|rfl|(simp;done)|(simp [*];done),by repeat(first|exact zu.refl _|apply zu.step)⟩

/-! ### zq7: function 142 -/
def zq7.j0:Nat→Int→Int→Bool→Option (Int × Int)
 | 0,_,_,_=>none
 | k+1,x0,x1,x12=>if x12=true then(some (0,0)) else (if x0=(-1) then((zjx.f x1).bind fun bt156=>(some (bt156.1,bt156.2))) else (if x1=(-1) then((zjx.f x0).bind fun bt158=>(some (bt158.1,bt158.2))) else (if x1=0 then(none) else ((zqr.f (wrap64 (x0 * x1)) ((wrap64 (Int.tdiv (wrap64 (x0 * x1)) x1)) == x0)).bind fun bt160=>(some (bt160.1,bt160.2))))))
def zq7.f (k:Nat) (a0:Int) (a1:Int):Option (Int × Int):=if a0=0 then(zq7.j0 k a0 a1 true) else (zq7.j0 k a0 a1 (a1 == 0))
theorem zq7.mono_l:∀ k,(∀ y0 y1 y2,LeO (zq7.j0 k y0 y1 y2) (zq7.j0 (k+1) y0 y1 y2))
 | 0=>fun _ _ _ r h=>by simp [zq7.j0] at h
 | k+1=>by
  have ih0:=zq7.mono_l k
  intro y0 y1 y2
  unfold zq7.j0
  repeat' first
  | (with_reducible first|exact ih0 _ _ _|exact LeO.refl _|exact LeO.none _|refine LeO.ite ?_ ?_|refine LeO.bind ?_ (fun _=>?_))
  | exact ih0 _ _ _
  | exact LeO.none _
  | refine LeO.ite ?_ ?_
  | refine LeO.bind ?_ (fun _=>?_)
theorem zq7.mono:∀ a0 a1 k,LeO (zq7.f k a0 a1) (zq7.f (k+1) a0 a1):=by
 intro a0 a1 k
 have ih0:=zq7.mono_l k
 unfold zq7.f
 repeat' first
   | (with_reducible first|exact ih0 _ _ _|exact LeO.refl _|exact LeO.none _|refine LeO.ite ?_ ?_|refine LeO.bind ?_ (fun _=>?_))
   | exact ih0 _ _ _
   | exact LeO.none _
   | refine LeO.ite ?_ ?_
   | refine LeO.bind ?_ (fun _=>?_)
set_option maxHeartbeats 8000000 in
set_option maxRecDepth 100000 in
theorem zq7.calls (k:Nat) (a0:Int) (a1:Int) (r1:Int) (r2:Int) (w:World) (h:zq7.f k a0 a1=some (r1,r2)) :
  Calls Tryd.prog 142 #[.int .i64 a0,.int .i64 a1] w fun e w'=>e = .returned (.tuple #[.int .i64 r1,.int .i64 r2])∧zu w w':=by
 have H:(if a0=0 then(zq7.j0 k a0 a1 true) else (zq7.j0 k a0 a1 (a1 == 0)))=some (r1,r2):=h
 clear h
 have HC3:=zq.mk H
 clear H
 go_enter Tryd.func142,Tryd.ntmps142
 go_upto_region 1 with (fail)
 go_cut [12] (fun v12 wc => ∃ (kq:Nat) (x12_2:Bool),v12 = .bool x12_2∧zq (zq7.j0 kq a0 a1 x12_2=some (r1,r2))∧zq (kq≤k)∧zu w wc)
 case first=>
  have H:=HC3.out
  clear HC3
  by_cases c4:a0=0
  ·rw [if_pos c4] at H
   have c4b0:(a0 == 0)=true:=beq_iff_eq.mpr c4
   have c4b1:(a0 != 0)=false:=bne_eq_false_iff_eq.mpr c4
   clear c4
   (first|rw [c4b0]|(simp only [zjs,zjt];rw [c4b0])|skip)
   have H':=zq.mk H
   clear H
   go_wp2
   go_meet
   case rel=>exact⟨_,(true),vr,H',⟨by first|omega|exact Nat.le_refl _⟩,by repeat(first|exact zu.refl _|apply zu.step)⟩
  rw [if_neg c4] at H
  have c4b0:(a0 == 0)=false:=beq_eq_false_iff_ne.mpr c4
  have c4b1:(a0 != 0)=true:=bne_iff_ne.mpr c4
  (first|rw [c4b0]|(simp only [zjs,zjt];rw [c4b0])|skip)
  have H':=zq.mk H
  clear H
  go_wp2
  go_meet
  case rel=>exact⟨_,((a1 == 0)),vr,H',⟨by first|omega|exact Nat.le_refl _⟩,by repeat(first|exact zu.refl _|apply zu.step)⟩
 case rest=>
  clear HC3
  obtain ⟨kq,x12_2,rfl,HA,HJ2,⟨mc2,rfl⟩⟩:=hcut
  cases kq with
  | zero=>exact absurd HA.out (by simp [zq7.j0])
  | succ kj2=>
   have H:=HA.out
   clear HA
   simp only [zq7.j0] at H
   by_cases c5:x12_2=true
   ·subst c5
    rw [if_pos rfl] at H
    simp only [Option.some.injEq,Prod.mk.injEq] at H
    obtain ⟨rfl,rfl⟩:=H
    go_wp2
    go_ret2
    exact⟨by first|rfl|(simp;done)|(simp [*];done),by repeat(first|exact zu.refl _|apply zu.step)⟩
   replace c5:=Bool.eq_false_iff.mpr c5
   subst c5
   rw [if_neg (show ¬ (false=true) by decide)] at H
   by_cases c6:a0=(-1)
   ·rw [if_pos c6] at H
    have c6b0:(a0 == (-1))=true:=beq_iff_eq.mpr c6
    have c6b1:(a0 != (-1))=false:=bne_eq_false_iff_eq.mpr c6
    clear c6
    replace H:=Option.bind_eq_some_iff.mp H
    obtain ⟨⟨t156,t157⟩,A70,H⟩:=H
    replace H:(some (t156,t157))=some (r1,r2):=H
    have A7:=zq.mk A70
    clear A70
    simp only [Option.some.injEq,Prod.mk.injEq] at H
    obtain ⟨rfl,rfl⟩:=H
    go_wp2_with (first|((with_reducible refine zl (f:=139) rfl ?_);refine qu (some 16) rfl rfl Tryd.func139 (by kernel_rfl) rfl #[.int .i64 a1] rfl gs ?_;(with_reducible refine(zjx.calls a1 t156 t157 _ A7.out).mono ?_);rintro e w' ⟨rfl,⟨nd,rfl⟩⟩;refine⟨_,rfl,?_⟩))
    go_ret2
    exact⟨by first|rfl|(simp;done)|(simp [*];done),by repeat(first|exact zu.refl _|apply zu.step)⟩
   rw [if_neg c6] at H
   have c6b0:(a0 == (-1))=false:=beq_eq_false_iff_ne.mpr c6
   have c6b1:(a0 != (-1))=true:=bne_iff_ne.mpr c6
   by_cases c8:a1=(-1)
   ·rw [if_pos c8] at H
    have c8b0:(a1 == (-1))=true:=beq_iff_eq.mpr c8
    have c8b1:(a1 != (-1))=false:=bne_eq_false_iff_eq.mpr c8
    clear c8
    replace H:=Option.bind_eq_some_iff.mp H
    obtain ⟨⟨t158,t159⟩,A90,H⟩:=H
    replace H:(some (t158,t159))=some (r1,r2):=H
    have A9:=zq.mk A90
    clear A90
    simp only [Option.some.injEq,Prod.mk.injEq] at H
    obtain ⟨rfl,rfl⟩:=H
    go_wp2_with (first|((with_reducible refine zl (f:=139) rfl ?_);refine qu (some 22) rfl rfl Tryd.func139 (by kernel_rfl) rfl #[.int .i64 a0] rfl gs ?_;(with_reducible refine(zjx.calls a0 t158 t159 _ A9.out).mono ?_);rintro e w' ⟨rfl,⟨nd,rfl⟩⟩;refine⟨_,rfl,?_⟩))
    go_ret2
    exact⟨by first|rfl|(simp;done)|(simp [*];done),by repeat(first|exact zu.refl _|apply zu.step)⟩
   rw [if_neg c8] at H
   have c8b0:(a1 == (-1))=false:=beq_eq_false_iff_ne.mpr c8
   have c8b1:(a1 != (-1))=true:=bne_iff_ne.mpr c8
   by_cases c10:a1=0
   ·rw [if_pos c10] at H
    exact absurd H (by simp)
   rw [if_neg c10] at H
   have c10b0:(a1 == 0)=false:=beq_eq_false_iff_ne.mpr c10
   have c10b1:(a1 != 0)=true:=bne_iff_ne.mpr c10
   replace H:=Option.bind_eq_some_iff.mp H
   obtain ⟨⟨t160,t161⟩,A110,H⟩:=H
   replace H:(some (t160,t161))=some (r1,r2):=H
   have A11:=zq.mk A110
   clear A110
   simp only [Option.some.injEq,Prod.mk.injEq] at H
   obtain ⟨rfl,rfl⟩:=H
   go_wp2_with (first|((with_reducible refine zl (f:=160) rfl ?_);refine qu (some 34) rfl rfl Tryd.func160 (by kernel_rfl) rfl #[.int .i64 (wrap64 (a0 * a1)),.bool ((wrap64 (Int.tdiv (wrap64 (a0 * a1)) a1)) == a0)] rfl gs ?_;(with_reducible refine(zqr.calls (wrap64 (a0 * a1)) ((wrap64 (Int.tdiv (wrap64 (a0 * a1)) a1)) == a0) t160 t161 _ A11.out).mono ?_);rintro e w' ⟨rfl,⟨nd,rfl⟩⟩;refine⟨_,rfl,?_⟩))
   go_ret2
   exact⟨by first|rfl|(simp;done)|(simp [*];done),by repeat(first|exact zu.refl _|apply zu.step)⟩

/-! ### zxt: function 143 -/
def zxt.f (a0:Int) (a1:Int):Option (Int × Int):=if a1=0 then(some (0,11)) else (if a1=(-1) then((zjx.f a0).bind fun bt162=>(some (bt162.1,bt162.2))) else (some (wrap64 (Int.tdiv a0 a1),0)))
set_option maxHeartbeats 8000000 in
set_option maxRecDepth 100000 in
theorem zxt.calls (a0:Int) (a1:Int) (r1:Int) (r2:Int) (w:World) (h:zxt.f a0 a1=some (r1,r2)) :
  Calls Tryd.prog 143 #[.int .i64 a0,.int .i64 a1] w fun e w'=>e = .returned (.tuple #[.int .i64 r1,.int .i64 r2])∧zu w w':=by
 have H:(if a1=0 then(some (0,11)) else (if a1=(-1) then((zjx.f a0).bind fun bt162=>(some (bt162.1,bt162.2))) else (some (wrap64 (Int.tdiv a0 a1),0))))=some (r1,r2):=h
 clear h
 by_cases c3:a1=0
 ·rw [if_pos c3] at H
  have c3b0:(a1 == 0)=true:=beq_iff_eq.mpr c3
  have c3b1:(a1 != 0)=false:=bne_eq_false_iff_eq.mpr c3
  clear c3
  simp only [Option.some.injEq,Prod.mk.injEq] at H
  obtain ⟨rfl,rfl⟩:=H
  go_enter Tryd.func143,Tryd.ntmps143
  go_wp2
  go_ret2
  exact⟨by first|rfl|(simp;done)|(simp [*];done),by repeat(first|exact zu.refl _|apply zu.step)⟩
 rw [if_neg c3] at H
 have c3b0:(a1 == 0)=false:=beq_eq_false_iff_ne.mpr c3
 have c3b1:(a1 != 0)=true:=bne_iff_ne.mpr c3
 by_cases c4:a1=(-1)
 ·rw [if_pos c4] at H
  have c4b0:(a1 == (-1))=true:=beq_iff_eq.mpr c4
  have c4b1:(a1 != (-1))=false:=bne_eq_false_iff_eq.mpr c4
  clear c4
  replace H:=Option.bind_eq_some_iff.mp H
  obtain ⟨⟨t162,t163⟩,A50,H⟩:=H
  replace H:(some (t162,t163))=some (r1,r2):=H
  have A5:=zq.mk A50
  clear A50
  simp only [Option.some.injEq,Prod.mk.injEq] at H
  obtain ⟨rfl,rfl⟩:=H
  go_enter Tryd.func143,Tryd.ntmps143
  go_wp2_with (first|((with_reducible refine zl (f:=139) rfl ?_);refine qu (some 12) rfl rfl Tryd.func139 (by kernel_rfl) rfl #[.int .i64 a0] rfl gs ?_;(with_reducible refine(zjx.calls a0 t162 t163 _ A5.out).mono ?_);rintro e w' ⟨rfl,⟨nd,rfl⟩⟩;refine⟨_,rfl,?_⟩))
  go_ret2
  exact⟨by first|rfl|(simp;done)|(simp [*];done),by repeat(first|exact zu.refl _|apply zu.step)⟩
 rw [if_neg c4] at H
 have c4b0:(a1 == (-1))=false:=beq_eq_false_iff_ne.mpr c4
 have c4b1:(a1 != (-1))=true:=bne_iff_ne.mpr c4
 simp only [Option.some.injEq,Prod.mk.injEq] at H
 obtain ⟨rfl,rfl⟩:=H
 go_enter Tryd.func143,Tryd.ntmps143
 go_wp2
 go_ret2
 exact⟨by first|rfl|(simp;done)|(simp [*];done),by repeat(first|exact zu.refl _|apply zu.step)⟩

/-! ### zxs: function 144 -/
def zxs.f (a0:Int) (a1:Int):Option (Int × Int):=if a1=0 then(some (0,11)) else (if a1=(-1) then(some (0,0)) else (some (Int.tmod a0 a1,0)))
set_option maxHeartbeats 8000000 in
set_option maxRecDepth 100000 in
theorem zxs.calls (a0:Int) (a1:Int) (r1:Int) (r2:Int) (w:World) (h:zxs.f a0 a1=some (r1,r2)) :
  Calls Tryd.prog 144 #[.int .i64 a0,.int .i64 a1] w fun e w'=>e = .returned (.tuple #[.int .i64 r1,.int .i64 r2])∧zu w w':=by
 have H:(if a1=0 then(some (0,11)) else (if a1=(-1) then(some (0,0)) else (some (Int.tmod a0 a1,0))))=some (r1,r2):=h
 clear h
 by_cases c3:a1=0
 ·rw [if_pos c3] at H
  have c3b0:(a1 == 0)=true:=beq_iff_eq.mpr c3
  have c3b1:(a1 != 0)=false:=bne_eq_false_iff_eq.mpr c3
  clear c3
  simp only [Option.some.injEq,Prod.mk.injEq] at H
  obtain ⟨rfl,rfl⟩:=H
  go_enter Tryd.func144,Tryd.ntmps144
  go_wp2
  go_ret2
  exact⟨by first|rfl|(simp;done)|(simp [*];done),by repeat(first|exact zu.refl _|apply zu.step)⟩
 rw [if_neg c3] at H
 have c3b0:(a1 == 0)=false:=beq_eq_false_iff_ne.mpr c3
 have c3b1:(a1 != 0)=true:=bne_iff_ne.mpr c3
 by_cases c4:a1=(-1)
 ·rw [if_pos c4] at H
  have c4b0:(a1 == (-1))=true:=beq_iff_eq.mpr c4
  have c4b1:(a1 != (-1))=false:=bne_eq_false_iff_eq.mpr c4
  clear c4
  simp only [Option.some.injEq,Prod.mk.injEq] at H
  obtain ⟨rfl,rfl⟩:=H
  go_enter Tryd.func144,Tryd.ntmps144
  go_wp2
  go_ret2
  exact⟨by first|rfl|(simp;done)|(simp [*];done),by repeat(first|exact zu.refl _|apply zu.step)⟩
 rw [if_neg c4] at H
 have c4b0:(a1 == (-1))=false:=beq_eq_false_iff_ne.mpr c4
 have c4b1:(a1 != (-1))=true:=bne_iff_ne.mpr c4
 simp only [Option.some.injEq,Prod.mk.injEq] at H
 obtain ⟨rfl,rfl⟩:=H
 go_enter Tryd.func144,Tryd.ntmps144
 go_wp2
 go_ret2
 exact⟨by first|rfl|(simp;done)|(simp [*];done),by repeat(first|exact zu.refl _|apply zu.step)⟩

/-! ### zm: function 107, by hand -/
-- HAND rounds=1 making=1 laid=1 func=1 imports=Derived.Deep.QuietTactic,Derived.BigQuiet,Derived.Deep.RegionHeld3,Derived.Deep.RegionWith
def zm.of (k:Nat) (o:Int) (a b:S38):Option (Int × Int × ByteArray × Int):=
 if 13≤o∧o≤18 then(zqd.f k o a.f0 a.f1 a.f2 b.f0 b.f1 b.f2).bind fun p=>zqz.f k p.1 p.2
 else if o=6 then zj1.f k (a.f0 == 0)
 else if o=7 then zj1.f k (a.f0 != 0)
 else if o=5 then(zq0.f k a.f0 a.f1 a.f2).bind fun p=>if p.2=0 then(zxf.f p.1).bind fun q=>zqz.f k q.1 q.2 else some (0,0,⟨#[]⟩,p.2)
 else if o=4 then zo.of (fun x _=>zjx.f x) a a
 else if o=8 then zo.of zxu.f a b
 else if o=9 then zo.of zxr.f a b
 else if o=10 then zo.of (zq7.f k) a b
 else if o=11 then zo.of zxt.f a b
 else if o=12 then zo.of zxs.f a b
 else none
def zm.f (_k:Nat) (_a:Int):Option Bool:=none
theorem zm.mono:∀ a0 k,LeO (zm.f k a0) (zm.f (k+1) a0):=fun _ _=>LeO.refl _
theorem zm.mono_of (k:Nat) (o:Int) (a b:S38):LeO (zm.of k o a b) (zm.of (k+1) o a b):=by
 unfold zm.of
 refine LeO.ite (LeO.bind (zqd.mono _ _ _ _ _ _ _ _) (fun _=>zqz.mono _ _ _)) ?_
 refine LeO.ite (zj1.mono _ _) (LeO.ite (zj1.mono _ _) (LeO.ite (LeO.bind (zq0.mono _ _ _ _) (fun _=>LeO.ite (LeO.bind (LeO.refl _) (fun _=>zqz.mono _ _ _)) (LeO.refl _))) ?_))
 refine LeO.ite (LeO.refl _) (LeO.ite (LeO.refl _) (LeO.ite (LeO.refl _) (LeO.ite ?_ (LeO.ite (LeO.refl _) (LeO.ite (LeO.refl _) (LeO.refl _))))))
 exact zo.mono_of (fun x y=>zq7.mono _ _ _) _ _
set_option maxRecDepth 100000 in
theorem zm.neg_at (x y r c:Int) (W:World) (h:zjx.f x=some (r,c)):Calls Tryd.prog 138 #[.int .i64 x,.int .i64 y] W fun e w'=>e = .returned (.tuple #[.int .i64 r,.int .i64 c])∧Below W.heap.size W w':=by
 have HC:=zq.mk (zjx.calls x r c W h)
 clear h
 go_enter Tryd.func138,Tryd.ntmps138
 go_wp2_with (go_at_call 139;(with_reducible refine HC.out.mono ?_);rintro e w1 ⟨rfl,hd⟩;have HD:=zq.mk hd.below;clear hd)
 go_ret2
 exact⟨rfl,HD.out⟩
abbrev zm.w0 (o ex ey:Int) (et en ep:ByteArray) (el:Int) (A7:Option Addr) (n7 c7:Nat) (a b:S38) (w:World):World:=(((w.alloc (.cells #[.int .i64 o,.int .i64 ex,.int .i64 ey,.string et,.string en,.string ep,.int .i64 el,.slice A7 n7 c7] 101)).alloc (.cells #[.int .i64 a.f0,.int .i64 a.f1,.string a.f2] 38)).alloc (.cells #[.int .i64 b.f0,.int .i64 b.f1,.string b.f2] 38)).alloc (.cells #[.int .i64 0,.int .i64 0,.string ⟨#[]⟩] 38)
structure zm.Kp (o ex ey:Int) (et en ep:ByteArray) (el:Int) (A7:Option Addr) (n7 c7:Nat) (a b:S38) (w W:World):Prop where mk :: (c0:W.cell? ⟨w.heap.size,0,none⟩=some (.int .i64 o)) (c1:W.cell? ⟨w.heap.size+1,0,none⟩=some (.int .i64 a.f0)) (c2:W.cell? ⟨w.heap.size+1,1,none⟩=some (.int .i64 a.f1)) (c3:W.cell? ⟨w.heap.size+1,2,none⟩=some (.string a.f2)) (c4:W.cell? ⟨w.heap.size+1+1,0,none⟩=some (.int .i64 b.f0)) (c5:W.cell? ⟨w.heap.size+1+1,1,none⟩=some (.int .i64 b.f1)) (c6:W.cell? ⟨w.heap.size+1+1,2,none⟩=some (.string b.f2)) (c7:W.cell? ⟨w.heap.size+1+1+1,0,none⟩=some (.int .i64 0)) (c8:W.cell? ⟨w.heap.size+1+1+1,1,none⟩=some (.int .i64 0)) (c9:W.cell? ⟨w.heap.size+1+1+1,2,none⟩=some (.string ⟨#[]⟩)) (c10:W.frozen? ⟨w.heap.size+1+1+1,0,none⟩=false) (c11:W.frozen? ⟨w.heap.size+1+1+1,1,none⟩=false) (c12:W.frozen? ⟨w.heap.size+1+1+1,2,none⟩=false)
theorem zm.zq6 {o ex ey:Int} {et en ep:ByteArray} {el:Int} {A7:Option Addr} {n7 c7:Nat} {a b:S38} {w:World} : (zm.w0 o ex ey et en ep el A7 n7 c7 a b w).heap.size=w.heap.size+1+1+1+1:=by simp [zm.w0]
theorem zm.hz {o ex ey:Int} {et en ep:ByteArray} {el:Int} {A7:Option Addr} {n7 c7:Nat} {a b:S38} {w W:World} (hb:Below (zm.w0 o ex ey et en ep el A7 n7 c7 a b w).heap.size (zm.w0 o ex ey et en ep el A7 n7 c7 a b w) W):W.heap[w.heap.size+1+1+1]? = some (.cells #[.int .i64 0,.int .i64 0,.string ⟨#[]⟩] 38 (0,0)):=by
 have q_:(((w.alloc (.cells #[.int .i64 o,.int .i64 ex,.int .i64 ey,.string et,.string en,.string ep,.int .i64 el,.slice A7 n7 c7] 101)).alloc (.cells #[.int .i64 a.f0,.int .i64 a.f1,.string a.f2] 38)).alloc (.cells #[.int .i64 b.f0,.int .i64 b.f1,.string b.f2] 38)).heap.size=w.heap.size+1+1+1:=by simp
 have h:=zj5 (((w.alloc (.cells #[.int .i64 o,.int .i64 ex,.int .i64 ey,.string et,.string en,.string ep,.int .i64 el,.slice A7 n7 c7] 101)).alloc (.cells #[.int .i64 a.f0,.int .i64 a.f1,.string a.f2] 38)).alloc (.cells #[.int .i64 b.f0,.int .i64 b.f1,.string b.f2] 38)) (.cells #[.int .i64 0,.int .i64 0,.string ⟨#[]⟩] 38)
 rw [q_] at h
 exact za h hb
theorem zm.hr {o ex ey:Int} {et en ep:ByteArray} {el:Int} {A7:Option Addr} {n7 c7:Nat} {a b:S38} {w W:World} (hb:Below (zm.w0 o ex ey et en ep el A7 n7 c7 a b w).heap.size (zm.w0 o ex ey et en ep el A7 n7 c7 a b w) W):Below w.heap.size w W:=by
 have h0:Below w.heap.size w (zm.w0 o ex ey et en ep el A7 n7 c7 a b w):=zp (zp (zp (zp (Below.refl _ _) _) _) _) _
 exact h0.trans (hb.mono h0.size)
theorem zm.kp {o ex ey:Int} {et en ep:ByteArray} {el:Int} {A7:Option Addr} {n7 c7:Nat} {a b:S38} {w W:World} (hb:Below (zm.w0 o ex ey et en ep el A7 n7 c7 a b w).heap.size (zm.w0 o ex ey et en ep el A7 n7 c7 a b w) W):zm.Kp o ex ey et en ep el A7 n7 c7 a b w W:=by
 have hs:=hb.size
 rw [zm.zq6] at hs
 exact⟨qq hb (by simp [go_sem]),qq hb (by simp [go_sem]),qq hb (by simp [go_sem]),qq hb (by simp [go_sem]),qq hb (by simp [go_sem]),qq hb (by simp [go_sem]),qq hb (by simp [go_sem]),qq hb (by simp [go_sem]),qq hb (by simp [go_sem]),qq hb (by simp [go_sem]),qy (zm.hz hb) 0,qy (zm.hz hb) 1,qy (zm.hz hb) 2⟩
set_option maxRecDepth 100000 in
set_option maxHeartbeats 8000000 in
theorem zm.at_cmp (k:Nat) (o ex ey:Int) (et en ep:ByteArray) (el:Int) (A7:Option Addr) (n7 c7:Nat) (a b:S38) (r1 r2:Int) (r3:ByteArray) (r4:Int) (w:World) (hL:LD w) (o1:13≤o) (o2:o≤18) (h:zm.of k o a b=some (r1,r2,r3,r4)) :
  Calls Tryd.prog 107 #[.agg #[.int .i64 o,.int .i64 ex,.int .i64 ey,.string et,.string en,.string ep,.int .i64 el,.slice A7 n7 c7],.agg #[.int .i64 a.f0,.int .i64 a.f1,.string a.f2],.agg #[.int .i64 b.f0,.int .i64 b.f1,.string b.f2]] w fun e w'=>e = .returned (.tuple #[.agg #[.int .i64 r1,.int .i64 r2,.string r3],.int .i64 r4])∧Below w.heap.size w w':=by
 have huv:=Tryd.underlying38
 have HL:=zq.mk hL
 clear hL
 unfold zm.of at h
 rw [if_pos ⟨o1,o2⟩] at h
 obtain ⟨⟨u,v⟩,hp,hq⟩:=Option.bind_eq_some_iff.1 h
 have HP:=zq.mk hp
 have HQ:=zq.mk hq
 have d1:=decide_eq_true o1
 have d2:=decide_eq_true o2
 clear h hp hq o1 o2
 go_enter Tryd.func107,Tryd.ntmps107
 go_wp2_with (first|(go_at_call 134;(with_reducible refine(zo.lift (W0:=zm.w0 o ex ey et en ep el A7 n7 c7 a b w) (Below.refl _ _) (zqd.calls k _ _ _ _ _ _ _ u v _ (LD.below HL.out (zm.hr (o:=o) (ex:=ex) (ey:=ey) (et:=et) (en:=en) (ep:=ep) (el:=el) (A7:=A7) (n7:=n7) (c7:=c7) (a:=a) (b:=b) (Below.refl _ _))) HP.out)).mono ?_);rintro e w1 ⟨rfl,hb1⟩;have HB1:=zq.mk hb1;cases zm.kp hb1;clear hb1)|(go_at_call 133;(with_reducible refine(zo.lift (HB1.out) (zqz.calls k u v r1 r2 r3 r4 _ HQ.out)).mono ?_);rintro e w2 ⟨rfl,hb2⟩;have HB2:=zq.mk hb2;cases zm.kp hb2;clear hb2))
 have HVX:=(zr (zr (zr (zm.hz HB2.out) 0 (.int .i64 r1) rfl) 1 (.int .i64 r2) rfl) 2 (.string r3) rfl)
 refine bodyPost_ret (qg (rs := [.cell 6 38,.tmp 7]) rfl (by simp) (.cell (w.heap.size+1+1+1) 38 _ (0,0) _ rfl HVX huv rfl (by kernel_rfl) (.tmp .nil))) rfl ?_
 exact⟨rfl,(((zm.hr HB2.out).setCell (p:=⟨w.heap.size+1+1+1,0,none⟩) (by simp <;> omega) _).setCell (p:=⟨w.heap.size+1+1+1,1,none⟩) (by simp <;> omega) _).setCell (p:=⟨w.heap.size+1+1+1,2,none⟩) (by simp <;> omega) _⟩
set_option maxRecDepth 100000 in
set_option maxHeartbeats 8000000 in
theorem zm.at_null (k:Nat) (ex ey:Int) (et en ep:ByteArray) (el:Int) (A7:Option Addr) (n7 c7:Nat) (a b:S38) (r1 r2:Int) (r3:ByteArray) (r4:Int) (w:World) (hL:LD w) (h:zm.of k 6 a b=some (r1,r2,r3,r4)) :
  Calls Tryd.prog 107 #[.agg #[.int .i64 6,.int .i64 ex,.int .i64 ey,.string et,.string en,.string ep,.int .i64 el,.slice A7 n7 c7],.agg #[.int .i64 a.f0,.int .i64 a.f1,.string a.f2],.agg #[.int .i64 b.f0,.int .i64 b.f1,.string b.f2]] w fun e w'=>e = .returned (.tuple #[.agg #[.int .i64 r1,.int .i64 r2,.string r3],.int .i64 r4])∧Below w.heap.size w w':=by
 have huv:=Tryd.underlying38
 have HL:=zq.mk hL
 clear hL
 unfold zm.of at h
 rw [if_neg (by decide),if_pos rfl] at h
 have HP:=zq.mk h
 clear h
 go_enter Tryd.func107,Tryd.ntmps107
 go_wp2_with (first|(go_at_call 135;(with_reducible refine(zo.lift (W0:=zm.w0 6 ex ey et en ep el A7 n7 c7 a b w) (Below.refl _ _) (zj1.calls k _ r1 r2 r3 r4 _ HP.out)).mono ?_);rintro e w1 ⟨rfl,hb1⟩;have HB1:=zq.mk hb1;cases zm.kp hb1;clear hb1))
 have HVX:=(zr (zr (zr (zm.hz HB1.out) 0 (.int .i64 r1) rfl) 1 (.int .i64 r2) rfl) 2 (.string r3) rfl)
 refine bodyPost_ret (qg (rs := [.cell 6 38,.tmp 7]) rfl (by simp) (.cell (w.heap.size+1+1+1) 38 _ (0,0) _ rfl HVX huv rfl (by kernel_rfl) (.tmp .nil))) rfl ?_
 exact⟨rfl,(((zm.hr HB1.out).setCell (p:=⟨w.heap.size+1+1+1,0,none⟩) (by simp <;> omega) _).setCell (p:=⟨w.heap.size+1+1+1,1,none⟩) (by simp <;> omega) _).setCell (p:=⟨w.heap.size+1+1+1,2,none⟩) (by simp <;> omega) _⟩
set_option maxRecDepth 100000 in
set_option maxHeartbeats 8000000 in
theorem zm.at_some (k:Nat) (ex ey:Int) (et en ep:ByteArray) (el:Int) (A7:Option Addr) (n7 c7:Nat) (a b:S38) (r1 r2:Int) (r3:ByteArray) (r4:Int) (w:World) (hL:LD w) (h:zm.of k 7 a b=some (r1,r2,r3,r4)) :
  Calls Tryd.prog 107 #[.agg #[.int .i64 7,.int .i64 ex,.int .i64 ey,.string et,.string en,.string ep,.int .i64 el,.slice A7 n7 c7],.agg #[.int .i64 a.f0,.int .i64 a.f1,.string a.f2],.agg #[.int .i64 b.f0,.int .i64 b.f1,.string b.f2]] w fun e w'=>e = .returned (.tuple #[.agg #[.int .i64 r1,.int .i64 r2,.string r3],.int .i64 r4])∧Below w.heap.size w w':=by
 have huv:=Tryd.underlying38
 have HL:=zq.mk hL
 clear hL
 unfold zm.of at h
 rw [if_neg (by decide),if_neg (by decide),if_pos rfl] at h
 have HP:=zq.mk h
 clear h
 go_enter Tryd.func107,Tryd.ntmps107
 go_wp2_with (first|(go_at_call 135;(with_reducible refine(zo.lift (W0:=zm.w0 7 ex ey et en ep el A7 n7 c7 a b w) (Below.refl _ _) (zj1.calls k _ r1 r2 r3 r4 _ HP.out)).mono ?_);rintro e w1 ⟨rfl,hb1⟩;have HB1:=zq.mk hb1;cases zm.kp hb1;clear hb1))
 have HVX:=(zr (zr (zr (zm.hz HB1.out) 0 (.int .i64 r1) rfl) 1 (.int .i64 r2) rfl) 2 (.string r3) rfl)
 refine bodyPost_ret (qg (rs := [.cell 6 38,.tmp 7]) rfl (by simp) (.cell (w.heap.size+1+1+1) 38 _ (0,0) _ rfl HVX huv rfl (by kernel_rfl) (.tmp .nil))) rfl ?_
 exact⟨rfl,(((zm.hr HB1.out).setCell (p:=⟨w.heap.size+1+1+1,0,none⟩) (by simp <;> omega) _).setCell (p:=⟨w.heap.size+1+1+1,1,none⟩) (by simp <;> omega) _).setCell (p:=⟨w.heap.size+1+1+1,2,none⟩) (by simp <;> omega) _⟩
set_option maxRecDepth 100000 in
set_option maxHeartbeats 8000000 in
theorem zm.at_not (k:Nat) (ex ey:Int) (et en ep:ByteArray) (el:Int) (A7:Option Addr) (n7 c7:Nat) (a b:S38) (r1 r2:Int) (r3:ByteArray) (r4:Int) (w:World) (hL:LD w) (h:zm.of k 5 a b=some (r1,r2,r3,r4)) :
  Calls Tryd.prog 107 #[.agg #[.int .i64 5,.int .i64 ex,.int .i64 ey,.string et,.string en,.string ep,.int .i64 el,.slice A7 n7 c7],.agg #[.int .i64 a.f0,.int .i64 a.f1,.string a.f2],.agg #[.int .i64 b.f0,.int .i64 b.f1,.string b.f2]] w fun e w'=>e = .returned (.tuple #[.agg #[.int .i64 r1,.int .i64 r2,.string r3],.int .i64 r4])∧Below w.heap.size w w':=by
 have huv:=Tryd.underlying38
 have HL:=zq.mk hL
 clear hL
 unfold zm.of at h
 rw [if_neg (by decide),if_neg (by decide),if_neg (by decide),if_pos rfl] at h
 obtain ⟨⟨u,v⟩,hp,h⟩:=Option.bind_eq_some_iff.1 h
 have HP:=zq.mk hp
 clear hp
 by_cases z:v=0
 ·rw [if_pos z] at h
  obtain ⟨⟨p,q⟩,hp,hq⟩:=Option.bind_eq_some_iff.1 h
  have HN:=zq.mk hp
  have HQ:=zq.mk hq
  subst z
  clear h hp hq
  go_enter Tryd.func107,Tryd.ntmps107
  go_wp2_with (first|(go_at_call 46;(with_reducible refine(zo.lift (W0:=zm.w0 5 ex ey et en ep el A7 n7 c7 a b w) (Below.refl _ _) (zq0.calls k _ _ _ u _ _ (LD.below HL.out (zm.hr (o:=5) (ex:=ex) (ey:=ey) (et:=et) (en:=en) (ep:=ep) (el:=el) (A7:=A7) (n7:=n7) (c7:=c7) (a:=a) (b:=b) (Below.refl _ _))) HP.out)).mono ?_);rintro e w1 ⟨rfl,hb1⟩;have HB1:=zq.mk hb1;cases zm.kp hb1;clear hb1)|(go_at_call 136;(with_reducible refine(zo.lift (HB1.out) (zo.drawn (zxf.calls u p q _ HN.out))).mono ?_);rintro e w2 ⟨rfl,hb2⟩;have HB2:=zq.mk hb2;cases zm.kp hb2;clear hb2)|(go_at_call 133;(with_reducible refine(zo.lift (HB2.out) (zqz.calls k p q r1 r2 r3 r4 _ HQ.out)).mono ?_);rintro e w3 ⟨rfl,hb3⟩;have HB3:=zq.mk hb3;cases zm.kp hb3;clear hb3))
  have HVX:=(zr (zr (zr (zm.hz HB3.out) 0 (.int .i64 r1) rfl) 1 (.int .i64 r2) rfl) 2 (.string r3) rfl)
  refine bodyPost_ret (qg (rs := [.cell 6 38,.tmp 7]) rfl (by simp) (.cell (w.heap.size+1+1+1) 38 _ (0,0) _ rfl HVX huv rfl (by kernel_rfl) (.tmp .nil))) rfl ?_
  exact⟨rfl,(((zm.hr HB3.out).setCell (p:=⟨w.heap.size+1+1+1,0,none⟩) (by simp <;> omega) _).setCell (p:=⟨w.heap.size+1+1+1,1,none⟩) (by simp <;> omega) _).setCell (p:=⟨w.heap.size+1+1+1,2,none⟩) (by simp <;> omega) _⟩
 rw [if_neg z] at h
 obtain ⟨rfl,rfl,rfl,rfl⟩:0=r1∧0=r2∧(⟨#[]⟩:ByteArray)=r3∧v=r4:=by simpa using h
 have dz:(v != 0)=true:=by simpa using z
 clear h z
 go_enter Tryd.func107,Tryd.ntmps107
 go_wp2_with (first|(go_at_call 46;(with_reducible refine(zo.lift (W0:=zm.w0 5 ex ey et en ep el A7 n7 c7 a b w) (Below.refl _ _) (zq0.calls k _ _ _ u _ _ (LD.below HL.out (zm.hr (o:=5) (ex:=ex) (ey:=ey) (et:=et) (en:=en) (ep:=ep) (el:=el) (A7:=A7) (n7:=n7) (c7:=c7) (a:=a) (b:=b) (Below.refl _ _))) HP.out)).mono ?_);rintro e w1 ⟨rfl,hb1⟩;have HB1:=zq.mk hb1;cases zm.kp hb1;clear hb1))
 have HVX:=(zr (zr (zr (zm.hz HB1.out) 0 (.int .i64 0) rfl) 1 (.int .i64 0) rfl) 2 (.string ⟨#[]⟩) rfl)
 refine bodyPost_ret (qg (rs := [.cell 6 38,.tmp 7]) rfl (by simp) (.cell (w.heap.size+1+1+1) 38 _ (0,0) _ rfl HVX huv rfl (by kernel_rfl) (.tmp .nil))) rfl ?_
 exact⟨rfl,(((zm.hr HB1.out).setCell (p:=⟨w.heap.size+1+1+1,0,none⟩) (by simp <;> omega) _).setCell (p:=⟨w.heap.size+1+1+1,1,none⟩) (by simp <;> omega) _).setCell (p:=⟨w.heap.size+1+1+1,2,none⟩) (by simp <;> omega) _⟩
set_option maxRecDepth 100000 in
set_option maxHeartbeats 8000000 in
theorem zm.at_neg (k:Nat) (ex ey:Int) (et en ep:ByteArray) (el:Int) (A7:Option Addr) (n7 c7:Nat) (a b:S38) (r1 r2:Int) (r3:ByteArray) (r4:Int) (w:World) (hL:LD w) (h:zm.of k 4 a b=some (r1,r2,r3,r4)) :
  Calls Tryd.prog 107 #[.agg #[.int .i64 4,.int .i64 ex,.int .i64 ey,.string et,.string en,.string ep,.int .i64 el,.slice A7 n7 c7],.agg #[.int .i64 a.f0,.int .i64 a.f1,.string a.f2],.agg #[.int .i64 b.f0,.int .i64 b.f1,.string b.f2]] w fun e w'=>e = .returned (.tuple #[.agg #[.int .i64 r1,.int .i64 r2,.string r3],.int .i64 r4])∧Below w.heap.size w w':=by
 have huv:=Tryd.underlying38
 have HL:=zq.mk hL
 clear hL
 unfold zm.of at h
 rw [if_neg (by decide),if_neg (by decide),if_neg (by decide),if_neg (by decide),if_pos rfl] at h
 have HP:=zq.mk h
 clear h
 go_enter Tryd.func107,Tryd.ntmps107
 go_wp2_with (first|(go_at_call 137;(with_reducible refine(zo.lift (W0:=zm.w0 4 ex ey et en ep el A7 n7 c7 a b w) (Below.refl _ _) (zo.at_ (fun x _=>zjx.f x) 138 (by decide) (fun x y r c W h=>zm.neg_at x y r c W h) a a r1 r2 r3 r4 _ HP.out)).mono ?_);rintro e w1 ⟨rfl,hb1⟩;have HB1:=zq.mk hb1;cases zm.kp hb1;clear hb1))
 have HVX:=(zr (zr (zr (zm.hz HB1.out) 0 (.int .i64 r1) rfl) 1 (.int .i64 r2) rfl) 2 (.string r3) rfl)
 refine bodyPost_ret (qg (rs := [.cell 6 38,.tmp 7]) rfl (by simp) (.cell (w.heap.size+1+1+1) 38 _ (0,0) _ rfl HVX huv rfl (by kernel_rfl) (.tmp .nil))) rfl ?_
 exact⟨rfl,(((zm.hr HB1.out).setCell (p:=⟨w.heap.size+1+1+1,0,none⟩) (by simp <;> omega) _).setCell (p:=⟨w.heap.size+1+1+1,1,none⟩) (by simp <;> omega) _).setCell (p:=⟨w.heap.size+1+1+1,2,none⟩) (by simp <;> omega) _⟩
theorem zm.idx0 (w:World):Sem.run Tryd.prog (Instr.index 168 (.agg #[.func (.func 140) #[] #[],.func (.func 141) #[] #[],.func (.func 142) #[] #[],.func (.func 143) #[] #[],.func (.func 144) #[] #[]]) (.int .i64 (IntKind.i64.wrap 0))) w = .ok (.func (.func 140) #[] #[]) w:=by kernel_rfl
theorem zm.idx1 (w:World):Sem.run Tryd.prog (Instr.index 168 (.agg #[.func (.func 140) #[] #[],.func (.func 141) #[] #[],.func (.func 142) #[] #[],.func (.func 143) #[] #[],.func (.func 144) #[] #[]]) (.int .i64 (IntKind.i64.wrap 1))) w = .ok (.func (.func 141) #[] #[]) w:=by kernel_rfl
theorem zm.idx2 (w:World):Sem.run Tryd.prog (Instr.index 168 (.agg #[.func (.func 140) #[] #[],.func (.func 141) #[] #[],.func (.func 142) #[] #[],.func (.func 143) #[] #[],.func (.func 144) #[] #[]]) (.int .i64 (IntKind.i64.wrap 2))) w = .ok (.func (.func 142) #[] #[]) w:=by kernel_rfl
theorem zm.idx3 (w:World):Sem.run Tryd.prog (Instr.index 168 (.agg #[.func (.func 140) #[] #[],.func (.func 141) #[] #[],.func (.func 142) #[] #[],.func (.func 143) #[] #[],.func (.func 144) #[] #[]]) (.int .i64 (IntKind.i64.wrap 3))) w = .ok (.func (.func 143) #[] #[]) w:=by kernel_rfl
theorem zm.idx4 (w:World):Sem.run Tryd.prog (Instr.index 168 (.agg #[.func (.func 140) #[] #[],.func (.func 141) #[] #[],.func (.func 142) #[] #[],.func (.func 143) #[] #[],.func (.func 144) #[] #[]]) (.int .i64 (IntKind.i64.wrap 4))) w = .ok (.func (.func 144) #[] #[]) w:=by kernel_rfl
attribute [local go_sem] zm.idx0 zm.idx1 zm.idx2 zm.idx3 zm.idx4
set_option maxRecDepth 100000 in
set_option maxHeartbeats 8000000 in
theorem zm.at_add (k:Nat) (ex ey:Int) (et en ep:ByteArray) (el:Int) (A7:Option Addr) (n7 c7:Nat) (a b:S38) (r1 r2:Int) (r3:ByteArray) (r4:Int) (w:World) (hL:LD w) (h:zm.of k 8 a b=some (r1,r2,r3,r4)) :
  Calls Tryd.prog 107 #[.agg #[.int .i64 8,.int .i64 ex,.int .i64 ey,.string et,.string en,.string ep,.int .i64 el,.slice A7 n7 c7],.agg #[.int .i64 a.f0,.int .i64 a.f1,.string a.f2],.agg #[.int .i64 b.f0,.int .i64 b.f1,.string b.f2]] w fun e w'=>e = .returned (.tuple #[.agg #[.int .i64 r1,.int .i64 r2,.string r3],.int .i64 r4])∧Below w.heap.size w w':=by
 have huv:=Tryd.underlying38
 have HL:=zq.mk hL
 clear hL
 unfold zm.of at h
 rw [if_neg (by decide),if_neg (by decide),if_neg (by decide),if_neg (by decide),if_neg (by decide),if_pos rfl] at h
 have HP:=zq.mk h
 clear h
 go_enter Tryd.func107,Tryd.ntmps107
 go_wp2
 go_region_with (go_at_call 137;(with_reducible refine(zo.lift (W0:=zm.w0 8 ex ey et en ep el A7 n7 c7 a b w) (by first|exact Below.refl _ _|exact zqa (Below.refl _ _)|exact qc (Below.refl _ _) _) (zo.at_ zxu.f 140 (by decide) (fun x y r c W h=>zo.drawn (zxu.calls x y r c W h)) a b r1 r2 r3 r4 _ HP.out)).mono ?_);rintro e w1 ⟨rfl,hb1⟩;have HB1:=zq.mk hb1;cases zm.kp hb1;clear hb1)
 all_goals
  go_wp2
  have HVX:=(zr (zr (zr (zm.hz HB1.out) 0 (.int .i64 r1) rfl) 1 (.int .i64 r2) rfl) 2 (.string r3) rfl)
  refine bodyPost_ret (qg (rs := [.cell 6 38,.tmp 7]) rfl (by simp) (.cell (w.heap.size+1+1+1) 38 _ (0,0) _ rfl HVX huv rfl (by kernel_rfl) (.tmp .nil))) rfl ?_
  exact⟨rfl,(((zm.hr HB1.out).setCell (p:=⟨w.heap.size+1+1+1,0,none⟩) (by simp <;> omega) _).setCell (p:=⟨w.heap.size+1+1+1,1,none⟩) (by simp <;> omega) _).setCell (p:=⟨w.heap.size+1+1+1,2,none⟩) (by simp <;> omega) _⟩
set_option maxRecDepth 100000 in
set_option maxHeartbeats 8000000 in
theorem zm.at_sub (k:Nat) (ex ey:Int) (et en ep:ByteArray) (el:Int) (A7:Option Addr) (n7 c7:Nat) (a b:S38) (r1 r2:Int) (r3:ByteArray) (r4:Int) (w:World) (hL:LD w) (h:zm.of k 9 a b=some (r1,r2,r3,r4)) :
  Calls Tryd.prog 107 #[.agg #[.int .i64 9,.int .i64 ex,.int .i64 ey,.string et,.string en,.string ep,.int .i64 el,.slice A7 n7 c7],.agg #[.int .i64 a.f0,.int .i64 a.f1,.string a.f2],.agg #[.int .i64 b.f0,.int .i64 b.f1,.string b.f2]] w fun e w'=>e = .returned (.tuple #[.agg #[.int .i64 r1,.int .i64 r2,.string r3],.int .i64 r4])∧Below w.heap.size w w':=by
 have huv:=Tryd.underlying38
 have HL:=zq.mk hL
 clear hL
 unfold zm.of at h
 rw [if_neg (by decide),if_neg (by decide),if_neg (by decide),if_neg (by decide),if_neg (by decide),if_neg (by decide),if_pos rfl] at h
 have HP:=zq.mk h
 clear h
 go_enter Tryd.func107,Tryd.ntmps107
 go_wp2
 go_region_with (go_at_call 137;(with_reducible refine(zo.lift (W0:=zm.w0 9 ex ey et en ep el A7 n7 c7 a b w) (by first|exact Below.refl _ _|exact zqa (Below.refl _ _)|exact qc (Below.refl _ _) _) (zo.at_ zxr.f 141 (by decide) (fun x y r c W h=>zo.drawn (zxr.calls x y r c W h)) a b r1 r2 r3 r4 _ HP.out)).mono ?_);rintro e w1 ⟨rfl,hb1⟩;have HB1:=zq.mk hb1;cases zm.kp hb1;clear hb1)
 all_goals
  go_wp2
  have HVX:=(zr (zr (zr (zm.hz HB1.out) 0 (.int .i64 r1) rfl) 1 (.int .i64 r2) rfl) 2 (.string r3) rfl)
  refine bodyPost_ret (qg (rs := [.cell 6 38,.tmp 7]) rfl (by simp) (.cell (w.heap.size+1+1+1) 38 _ (0,0) _ rfl HVX huv rfl (by kernel_rfl) (.tmp .nil))) rfl ?_
  exact⟨rfl,(((zm.hr HB1.out).setCell (p:=⟨w.heap.size+1+1+1,0,none⟩) (by simp <;> omega) _).setCell (p:=⟨w.heap.size+1+1+1,1,none⟩) (by simp <;> omega) _).setCell (p:=⟨w.heap.size+1+1+1,2,none⟩) (by simp <;> omega) _⟩
set_option maxRecDepth 100000 in
set_option maxHeartbeats 8000000 in
theorem zm.at_mul (k:Nat) (ex ey:Int) (et en ep:ByteArray) (el:Int) (A7:Option Addr) (n7 c7:Nat) (a b:S38) (r1 r2:Int) (r3:ByteArray) (r4:Int) (w:World) (hL:LD w) (h:zm.of k 10 a b=some (r1,r2,r3,r4)) :
  Calls Tryd.prog 107 #[.agg #[.int .i64 10,.int .i64 ex,.int .i64 ey,.string et,.string en,.string ep,.int .i64 el,.slice A7 n7 c7],.agg #[.int .i64 a.f0,.int .i64 a.f1,.string a.f2],.agg #[.int .i64 b.f0,.int .i64 b.f1,.string b.f2]] w fun e w'=>e = .returned (.tuple #[.agg #[.int .i64 r1,.int .i64 r2,.string r3],.int .i64 r4])∧Below w.heap.size w w':=by
 have huv:=Tryd.underlying38
 have HL:=zq.mk hL
 clear hL
 unfold zm.of at h
 rw [if_neg (by decide),if_neg (by decide),if_neg (by decide),if_neg (by decide),if_neg (by decide),if_neg (by decide),if_neg (by decide),if_pos rfl] at h
 have HP:=zq.mk h
 clear h
 go_enter Tryd.func107,Tryd.ntmps107
 go_wp2
 go_region_with (go_at_call 137;(with_reducible refine(zo.lift (W0:=zm.w0 10 ex ey et en ep el A7 n7 c7 a b w) (by first|exact Below.refl _ _|exact zqa (Below.refl _ _)|exact qc (Below.refl _ _) _) (zo.at_ (zq7.f k) 142 (by decide) (fun x y r c W h=>zo.drawn (zq7.calls k x y r c W h)) a b r1 r2 r3 r4 _ HP.out)).mono ?_);rintro e w1 ⟨rfl,hb1⟩;have HB1:=zq.mk hb1;cases zm.kp hb1;clear hb1)
 all_goals
  go_wp2
  have HVX:=(zr (zr (zr (zm.hz HB1.out) 0 (.int .i64 r1) rfl) 1 (.int .i64 r2) rfl) 2 (.string r3) rfl)
  refine bodyPost_ret (qg (rs := [.cell 6 38,.tmp 7]) rfl (by simp) (.cell (w.heap.size+1+1+1) 38 _ (0,0) _ rfl HVX huv rfl (by kernel_rfl) (.tmp .nil))) rfl ?_
  exact⟨rfl,(((zm.hr HB1.out).setCell (p:=⟨w.heap.size+1+1+1,0,none⟩) (by simp <;> omega) _).setCell (p:=⟨w.heap.size+1+1+1,1,none⟩) (by simp <;> omega) _).setCell (p:=⟨w.heap.size+1+1+1,2,none⟩) (by simp <;> omega) _⟩
set_option maxRecDepth 100000 in
set_option maxHeartbeats 8000000 in
theorem zm.at_div (k:Nat) (ex ey:Int) (et en ep:ByteArray) (el:Int) (A7:Option Addr) (n7 c7:Nat) (a b:S38) (r1 r2:Int) (r3:ByteArray) (r4:Int) (w:World) (hL:LD w) (h:zm.of k 11 a b=some (r1,r2,r3,r4)) :
  Calls Tryd.prog 107 #[.agg #[.int .i64 11,.int .i64 ex,.int .i64 ey,.string et,.string en,.string ep,.int .i64 el,.slice A7 n7 c7],.agg #[.int .i64 a.f0,.int .i64 a.f1,.string a.f2],.agg #[.int .i64 b.f0,.int .i64 b.f1,.string b.f2]] w fun e w'=>e = .returned (.tuple #[.agg #[.int .i64 r1,.int .i64 r2,.string r3],.int .i64 r4])∧Below w.heap.size w w':=by
 have huv:=Tryd.underlying38
 have HL:=zq.mk hL
 clear hL
 unfold zm.of at h
 rw [if_neg (by decide),if_neg (by decide),if_neg (by decide),if_neg (by decide),if_neg (by decide),if_neg (by decide),if_neg (by decide),if_neg (by decide),if_pos rfl] at h
 have HP:=zq.mk h
 clear h
 go_enter Tryd.func107,Tryd.ntmps107
 go_wp2
 go_region_with (go_at_call 137;(with_reducible refine(zo.lift (W0:=zm.w0 11 ex ey et en ep el A7 n7 c7 a b w) (by first|exact Below.refl _ _|exact zqa (Below.refl _ _)|exact qc (Below.refl _ _) _) (zo.at_ zxt.f 143 (by decide) (fun x y r c W h=>zo.drawn (zxt.calls x y r c W h)) a b r1 r2 r3 r4 _ HP.out)).mono ?_);rintro e w1 ⟨rfl,hb1⟩;have HB1:=zq.mk hb1;cases zm.kp hb1;clear hb1)
 all_goals
  go_wp2
  have HVX:=(zr (zr (zr (zm.hz HB1.out) 0 (.int .i64 r1) rfl) 1 (.int .i64 r2) rfl) 2 (.string r3) rfl)
  refine bodyPost_ret (qg (rs := [.cell 6 38,.tmp 7]) rfl (by simp) (.cell (w.heap.size+1+1+1) 38 _ (0,0) _ rfl HVX huv rfl (by kernel_rfl) (.tmp .nil))) rfl ?_
  exact⟨rfl,(((zm.hr HB1.out).setCell (p:=⟨w.heap.size+1+1+1,0,none⟩) (by simp <;> omega) _).setCell (p:=⟨w.heap.size+1+1+1,1,none⟩) (by simp <;> omega) _).setCell (p:=⟨w.heap.size+1+1+1,2,none⟩) (by simp <;> omega) _⟩
set_option maxRecDepth 100000 in
set_option maxHeartbeats 8000000 in
theorem zm.at_mod (k:Nat) (ex ey:Int) (et en ep:ByteArray) (el:Int) (A7:Option Addr) (n7 c7:Nat) (a b:S38) (r1 r2:Int) (r3:ByteArray) (r4:Int) (w:World) (hL:LD w) (h:zm.of k 12 a b=some (r1,r2,r3,r4)) :
  Calls Tryd.prog 107 #[.agg #[.int .i64 12,.int .i64 ex,.int .i64 ey,.string et,.string en,.string ep,.int .i64 el,.slice A7 n7 c7],.agg #[.int .i64 a.f0,.int .i64 a.f1,.string a.f2],.agg #[.int .i64 b.f0,.int .i64 b.f1,.string b.f2]] w fun e w'=>e = .returned (.tuple #[.agg #[.int .i64 r1,.int .i64 r2,.string r3],.int .i64 r4])∧Below w.heap.size w w':=by
 have huv:=Tryd.underlying38
 have HL:=zq.mk hL
 clear hL
 unfold zm.of at h
 rw [if_neg (by decide),if_neg (by decide),if_neg (by decide),if_neg (by decide),if_neg (by decide),if_neg (by decide),if_neg (by decide),if_neg (by decide),if_neg (by decide),if_pos rfl] at h
 have HP:=zq.mk h
 clear h
 go_enter Tryd.func107,Tryd.ntmps107
 go_wp2
 go_region_with (go_at_call 137;(with_reducible refine(zo.lift (W0:=zm.w0 12 ex ey et en ep el A7 n7 c7 a b w) (by first|exact Below.refl _ _|exact zqa (Below.refl _ _)|exact qc (Below.refl _ _) _) (zo.at_ zxs.f 144 (by decide) (fun x y r c W h=>zo.drawn (zxs.calls x y r c W h)) a b r1 r2 r3 r4 _ HP.out)).mono ?_);rintro e w1 ⟨rfl,hb1⟩;have HB1:=zq.mk hb1;cases zm.kp hb1;clear hb1)
 all_goals
  go_wp2
  have HVX:=(zr (zr (zr (zm.hz HB1.out) 0 (.int .i64 r1) rfl) 1 (.int .i64 r2) rfl) 2 (.string r3) rfl)
  refine bodyPost_ret (qg (rs := [.cell 6 38,.tmp 7]) rfl (by simp) (.cell (w.heap.size+1+1+1) 38 _ (0,0) _ rfl HVX huv rfl (by kernel_rfl) (.tmp .nil))) rfl ?_
  exact⟨rfl,(((zm.hr HB1.out).setCell (p:=⟨w.heap.size+1+1+1,0,none⟩) (by simp <;> omega) _).setCell (p:=⟨w.heap.size+1+1+1,1,none⟩) (by simp <;> omega) _).setCell (p:=⟨w.heap.size+1+1+1,2,none⟩) (by simp <;> omega) _⟩
theorem zm.at_ (k:Nat) (o ex ey:Int) (et en ep:ByteArray) (el:Int) (A7:Option Addr) (n7 c7:Nat) (a b:S38) (r1 r2:Int) (r3:ByteArray) (r4:Int) (w:World) (hL:LD w) (h:zm.of k o a b=some (r1,r2,r3,r4)) :
  Calls Tryd.prog 107 #[.agg #[.int .i64 o,.int .i64 ex,.int .i64 ey,.string et,.string en,.string ep,.int .i64 el,.slice A7 n7 c7],.agg #[.int .i64 a.f0,.int .i64 a.f1,.string a.f2],.agg #[.int .i64 b.f0,.int .i64 b.f1,.string b.f2]] w fun e w'=>e = .returned (.tuple #[.agg #[.int .i64 r1,.int .i64 r2,.string r3],.int .i64 r4])∧Below w.heap.size w w':=by
 by_cases h1:13≤o∧o≤18
 ·exact zm.at_cmp k o ex ey et en ep el A7 n7 c7 a b r1 r2 r3 r4 w hL h1.1 h1.2 h
 by_cases h6:o=6
 ·subst h6
  exact zm.at_null k ex ey et en ep el A7 n7 c7 a b r1 r2 r3 r4 w hL h
 by_cases h7:o=7
 ·subst h7
  exact zm.at_some k ex ey et en ep el A7 n7 c7 a b r1 r2 r3 r4 w hL h
 by_cases h5:o=5
 ·subst h5
  exact zm.at_not k ex ey et en ep el A7 n7 c7 a b r1 r2 r3 r4 w hL h
 by_cases h4:o=4
 ·subst h4
  exact zm.at_neg k ex ey et en ep el A7 n7 c7 a b r1 r2 r3 r4 w hL h
 by_cases h8:o=8
 ·subst h8
  exact zm.at_add k ex ey et en ep el A7 n7 c7 a b r1 r2 r3 r4 w hL h
 by_cases h9:o=9
 ·subst h9
  exact zm.at_sub k ex ey et en ep el A7 n7 c7 a b r1 r2 r3 r4 w hL h
 by_cases h10:o=10
 ·subst h10
  exact zm.at_mul k ex ey et en ep el A7 n7 c7 a b r1 r2 r3 r4 w hL h
 by_cases h11:o=11
 ·subst h11
  exact zm.at_div k ex ey et en ep el A7 n7 c7 a b r1 r2 r3 r4 w hL h
 by_cases h12:o=12
 ·subst h12
  exact zm.at_mod k ex ey et en ep el A7 n7 c7 a b r1 r2 r3 r4 w hL h
 exfalso
 unfold zm.of at h
 rw [if_neg h1,if_neg h6,if_neg h7,if_neg h5,if_neg h4,if_neg h8,if_neg h9,if_neg h10,if_neg h11,if_neg h12] at h
 cases h

-- NOT PRINTED: function 152 (value_fold)

end Go.Proofs.YthhejedfjgikdaaDoor.PRelProjects
