-- Written by wip/pp of this repo (over the kit's print, with additions of this session); Lean checks every line.
import Derived.Test.YtmfpaeajibeikaaDoorPEvalHoldsx13
namespace Go.Proofs.YtmfpaeajibeikaaDoor.PEvalHolds
open Go.RowKit Go.Proofs.YtmfpaeajibeikaaDoorW.PrintWords Go.Proofs.YtmfpaeajibeikaaDoorW.PrintLast Go.Proofs.YtmfpaeajibeikaaDoorW.PrintMore
attribute [local go_sem] zje zjc zjo zjn zq1 zq0 zjd zjb   -- for this text's walks alone
set_option linter.unusedVariables false
set_option linter.unusedSimpArgs false

/-! ### ze: function 77 -/
mutual
def ze.j0:Nat→Int→Bool→Int→Int→ByteArray→Int→Int→ByteArray→Option (Int × Int)
 | 0,_,_,_,_,_,_,_,_=>none
 | k+1,x0,x31,x218000,x218001,x218002,x219000,x219001,x219002=>if x31=true then(some (0,3)) else ((zqc.f k x218000 x218001 x218002 x219000 x219001 x219002).bind fun bt219=>(if bt219.2=0 then(if x218000=0 then(ze.j1 k x0 bt219.1 true x218000 x218001 x218002 x219000 x219001 x219002) else (ze.j1 k x0 bt219.1 (x219000 == 0) x218000 x218001 x218002 x219000 x219001 x219002)) else (some (0,bt219.2))))
def ze.j1:Nat→Int→Int→Bool→Int→Int→ByteArray→Int→Int→ByteArray→Option (Int × Int)
 | 0,_,_,_,_,_,_,_,_,_=>none
 | k+1,x0,x8,x48,x218000,x218001,x218002,x219000,x219001,x219002=>if x48=true then(some (1,0)) else (if x218000=x219000 then(if x0=13 then(if x8=0 then(some (2,0)) else (if x0=14 then(some (2,0)) else (if x0=15 then(if x8<0 then(some (2,0)) else (if x0=16 then(if x8≤0 then(some (2,0)) else (if x0=17 then(if x8 > 0 then(some (2,0)) else (if x0=18 then(if x8 ≥ 0 then(some (2,0)) else (some (0,0))) else (some (0,0)))) else (if x0=18 then(if x8 ≥ 0 then(some (2,0)) else (some (0,0))) else (some (0,0))))) else (if x0=17 then(if x8 > 0 then(some (2,0)) else (if x0=18 then(if x8 ≥ 0 then(some (2,0)) else (some (0,0))) else (some (0,0)))) else (if x0=18 then(if x8 ≥ 0 then(some (2,0)) else (some (0,0))) else (some (0,0)))))) else (if x0=16 then(if x8≤0 then(some (2,0)) else (if x0=17 then(if x8 > 0 then(some (2,0)) else (if x0=18 then(if x8 ≥ 0 then(some (2,0)) else (some (0,0))) else (some (0,0)))) else (if x0=18 then(if x8 ≥ 0 then(some (2,0)) else (some (0,0))) else (some (0,0))))) else (if x0=17 then(if x8 > 0 then(some (2,0)) else (if x0=18 then(if x8 ≥ 0 then(some (2,0)) else (some (0,0))) else (some (0,0)))) else (if x0=18 then(if x8 ≥ 0 then(some (2,0)) else (some (0,0))) else (some (0,0)))))))) else (if x0=14 then(if x8=0 then(if x0=15 then(if x8<0 then(some (2,0)) else (if x0=16 then(if x8≤0 then(some (2,0)) else (if x0=17 then(if x8 > 0 then(some (2,0)) else (if x0=18 then(if x8 ≥ 0 then(some (2,0)) else (some (0,0))) else (some (0,0)))) else (if x0=18 then(if x8 ≥ 0 then(some (2,0)) else (some (0,0))) else (some (0,0))))) else (if x0=17 then(if x8 > 0 then(some (2,0)) else (if x0=18 then(if x8 ≥ 0 then(some (2,0)) else (some (0,0))) else (some (0,0)))) else (if x0=18 then(if x8 ≥ 0 then(some (2,0)) else (some (0,0))) else (some (0,0)))))) else (if x0=16 then(if x8≤0 then(some (2,0)) else (if x0=17 then(if x8 > 0 then(some (2,0)) else (if x0=18 then(if x8 ≥ 0 then(some (2,0)) else (some (0,0))) else (some (0,0)))) else (if x0=18 then(if x8 ≥ 0 then(some (2,0)) else (some (0,0))) else (some (0,0))))) else (if x0=17 then(if x8 > 0 then(some (2,0)) else (if x0=18 then(if x8 ≥ 0 then(some (2,0)) else (some (0,0))) else (some (0,0)))) else (if x0=18 then(if x8 ≥ 0 then(some (2,0)) else (some (0,0))) else (some (0,0)))))) else (some (2,0))) else (if x0=15 then(if x8<0 then(some (2,0)) else (if x0=16 then(if x8≤0 then(some (2,0)) else (if x0=17 then(if x8 > 0 then(some (2,0)) else (if x0=18 then(if x8 ≥ 0 then(some (2,0)) else (some (0,0))) else (some (0,0)))) else (if x0=18 then(if x8 ≥ 0 then(some (2,0)) else (some (0,0))) else (some (0,0))))) else (if x0=17 then(if x8 > 0 then(some (2,0)) else (if x0=18 then(if x8 ≥ 0 then(some (2,0)) else (some (0,0))) else (some (0,0)))) else (if x0=18 then(if x8 ≥ 0 then(some (2,0)) else (some (0,0))) else (some (0,0)))))) else (if x0=16 then(if x8≤0 then(some (2,0)) else (if x0=17 then(if x8 > 0 then(some (2,0)) else (if x0=18 then(if x8 ≥ 0 then(some (2,0)) else (some (0,0))) else (some (0,0)))) else (if x0=18 then(if x8 ≥ 0 then(some (2,0)) else (some (0,0))) else (some (0,0))))) else (if x0=17 then(if x8 > 0 then(some (2,0)) else (if x0=18 then(if x8 ≥ 0 then(some (2,0)) else (some (0,0))) else (some (0,0)))) else (if x0=18 then(if x8 ≥ 0 then(some (2,0)) else (some (0,0))) else (some (0,0)))))))) else (some (0,12)))
end
def ze.f (k:Nat) (a0:Int) (a1_0:Int) (a1_1:Int) (a1_2:ByteArray) (a2_0:Int) (a2_1:Int) (a2_2:ByteArray):Option (Int × Int):=if a0=13 then(ze.j0 k a0 false a1_0 a1_1 a1_2 a2_0 a2_1 a2_2) else (if a0=14 then(ze.j0 k a0 false a1_0 a1_1 a1_2 a2_0 a2_1 a2_2) else (if a0=15 then(ze.j0 k a0 false a1_0 a1_1 a1_2 a2_0 a2_1 a2_2) else (if a0=16 then(ze.j0 k a0 false a1_0 a1_1 a1_2 a2_0 a2_1 a2_2) else (if a0=17 then(ze.j0 k a0 false a1_0 a1_1 a1_2 a2_0 a2_1 a2_2) else (ze.j0 k a0 (a0 != 18) a1_0 a1_1 a1_2 a2_0 a2_1 a2_2)))))
theorem ze.mono_l:∀ k,(∀ y0 y1 y2 y3 y4 y5 y6 y7,LeO (ze.j0 k y0 y1 y2 y3 y4 y5 y6 y7) (ze.j0 (k+1) y0 y1 y2 y3 y4 y5 y6 y7))∧(∀ y0 y1 y2 y3 y4 y5 y6 y7 y8,LeO (ze.j1 k y0 y1 y2 y3 y4 y5 y6 y7 y8) (ze.j1 (k+1) y0 y1 y2 y3 y4 y5 y6 y7 y8))
 | 0=>⟨fun _ _ _ _ _ _ _ _ r h=>by simp [ze.j0] at h,fun _ _ _ _ _ _ _ _ _ r h=>by simp [ze.j1] at h⟩
 | k+1=>by
  obtain ⟨ih0,ih1⟩:=ze.mono_l k
  refine⟨?_,?_⟩
  ·intro y0 y1 y2 y3 y4 y5 y6 y7
   unfold ze.j0
   repeat' first
   | (with_reducible first|exact ih0 _ _ _ _ _ _ _ _|exact ih1 _ _ _ _ _ _ _ _ _|exact zqc.mono _ _ _ _ _ _ _|exact LeO.refl _|exact LeO.none _|refine LeO.ite ?_ ?_|refine LeO.bind ?_ (fun _=>?_))
   | exact ih0 _ _ _ _ _ _ _ _
   | exact ih1 _ _ _ _ _ _ _ _ _
   | exact zqc.mono _ _ _ _ _ _ _
   | exact LeO.none _
   | refine LeO.ite ?_ ?_
   | refine LeO.bind ?_ (fun _=>?_)
  intro y0 y1 y2 y3 y4 y5 y6 y7 y8
  unfold ze.j1
  repeat' first
  | (with_reducible first|exact ih0 _ _ _ _ _ _ _ _|exact ih1 _ _ _ _ _ _ _ _ _|exact zqc.mono _ _ _ _ _ _ _|exact LeO.refl _|exact LeO.none _|refine LeO.ite ?_ ?_|refine LeO.bind ?_ (fun _=>?_))
  | exact ih0 _ _ _ _ _ _ _ _
  | exact ih1 _ _ _ _ _ _ _ _ _
  | exact zqc.mono _ _ _ _ _ _ _
  | exact LeO.none _
  | refine LeO.ite ?_ ?_
  | refine LeO.bind ?_ (fun _=>?_)
theorem ze.mono:∀ a0 a1 a2 a3 a4 a5 a6 k,LeO (ze.f k a0 a1 a2 a3 a4 a5 a6) (ze.f (k+1) a0 a1 a2 a3 a4 a5 a6):=by
 intro a0 a1 a2 a3 a4 a5 a6 k
 obtain ⟨ih0,ih1⟩:=ze.mono_l k
 unfold ze.f
 repeat' first
   | (with_reducible first|exact ih0 _ _ _ _ _ _ _ _|exact ih1 _ _ _ _ _ _ _ _ _|exact zqc.mono _ _ _ _ _ _ _|exact LeO.refl _|exact LeO.none _|refine LeO.ite ?_ ?_|refine LeO.bind ?_ (fun _=>?_))
   | exact ih0 _ _ _ _ _ _ _ _
   | exact ih1 _ _ _ _ _ _ _ _ _
   | exact zqc.mono _ _ _ _ _ _ _
   | exact LeO.none _
   | refine LeO.ite ?_ ?_
   | refine LeO.bind ?_ (fun _=>?_)
set_option maxHeartbeats 8000000 in
set_option maxRecDepth 100000 in
theorem ze.calls (k:Nat) (a0:Int) (a1_0:Int) (a1_1:Int) (a1_2:ByteArray) (a2_0:Int) (a2_1:Int) (a2_2:ByteArray) (r1:Int) (r2:Int) (w:World) (h:ze.f k a0 a1_0 a1_1 a1_2 a2_0 a2_1 a2_2=some (r1,r2)) :
  Calls Tryd.prog 77 #[.int .i64 a0,.agg #[.int .i64 a1_0,.int .i64 a1_1,.string a1_2],.agg #[.int .i64 a2_0,.int .i64 a2_1,.string a2_2]] w fun e w'=>e = .returned (.tuple #[.int .i64 r1,.int .i64 r2])∧Below w.heap.size w w':=by
 have hu30:=Tryd.underlying30
 have HB:=zq.mk (Below.refl w.heap.size w)
 have H:(if a0=13 then(ze.j0 k a0 false a1_0 a1_1 a1_2 a2_0 a2_1 a2_2) else (if a0=14 then(ze.j0 k a0 false a1_0 a1_1 a1_2 a2_0 a2_1 a2_2) else (if a0=15 then(ze.j0 k a0 false a1_0 a1_1 a1_2 a2_0 a2_1 a2_2) else (if a0=16 then(ze.j0 k a0 false a1_0 a1_1 a1_2 a2_0 a2_1 a2_2) else (if a0=17 then(ze.j0 k a0 false a1_0 a1_1 a1_2 a2_0 a2_1 a2_2) else (ze.j0 k a0 (a0 != 18) a1_0 a1_1 a1_2 a2_0 a2_1 a2_2))))))=some (r1,r2):=h
 clear h
 have HC4:=zq.mk H
 clear H
 go_enter Tryd.func77,Tryd.ntmps77
 go_upto_region 1 with (first|((with_reducible refine ql (N:=4) rfl ?_);refine qh ?hg (N:=4) ?hd (cs:=#[.int .i64 a1_0,.int .i64 a1_1,.string a1_2]) (t:=30) ?hr ?_;(case hd=>rfl);(case hg=>rfl);(case hr=>first|(go_simp;done)|(go_simp;rfl));intro gb217 hg w5 hbox hb;have BK217:=zq.mk (hbox);have GW217:=zq.mk ((by rw [hg];exact(zv bw):w.heap.size≤gb217));have GE217:=zq.mk ((by rw [hg];exact(zv bw):w.heap.size≤gb217));replace HB:=zq.mk (zb bw hb);clear hb hbox hg)|((with_reducible refine ql (N:=5) rfl ?_);refine qh ?hg (N:=5) ?hd (cs:=#[.int .i64 a2_0,.int .i64 a2_1,.string a2_2]) (t:=30) ?hr ?_;(case hd=>rfl);(case hg=>rfl);(case hr=>first|(go_simp;done)|(go_simp;rfl));intro gb218 hg w6 hbox hb;have BK218:=zq.mk (hbox);have GW218:=zq.mk ((by rw [hg];exact(zv bw):w.heap.size≤gb218));have GE218:=zq.mk ((by rw [hg];exact(zv bw):w.heap.size≤gb218));replace HB:=zq.mk (zb bw hb);have NB217_218:=zq.mk ((by rw [hg];exact Nat.ne_of_lt (qf (g:=gb217) (o:=.cells #[.int .i64 a1_0,.int .i64 a1_1,.string a1_2] 30 (0,0)) (up BK217.out)):gb217≠gb218));have NB218_217:=zq.mk ((by rw [hg];exact Nat.ne_of_gt (qf (g:=gb217) (o:=.cells #[.int .i64 a1_0,.int .i64 a1_1,.string a1_2] 30 (0,0)) (up BK217.out)):gb218≠gb217));replace BK217:=zq.mk (zf (g:=gb217) (o:=.cells #[.int .i64 a1_0,.int .i64 a1_1,.string a1_2] 30 (0,0)) (up BK217.out) hb);clear hb hbox hg))
 (try simp only [Act.put,List.setIfInBounds_toArray,List.set_cons_zero,List.set_cons_succ])
 go_cut [31] (fun v31 wc => ∃ (kq:Nat) (x31_3:Bool),v31 = .bool x31_3∧zq (ze.j0 kq a0 x31_3 a1_0 a1_1 a1_2 a2_0 a2_1 a2_2=some (r1,r2))∧zq (kq≤k)∧zq (wc.heap[gb217]? = some (.cells #[.int .i64 a1_0,.int .i64 a1_1,.string a1_2] 30 (0,0)))∧zq (wc.heap[gb218]? = some (.cells #[.int .i64 a2_0,.int .i64 a2_1,.string a2_2] 30 (0,0)))∧zq (Below w.heap.size w wc))
 case first=>
  have H:=HC4.out
  clear HC4
  by_cases c7:a0=13
  ·rw [if_pos c7] at H
   have c7b0:(a0 == 13)=true:=beq_iff_eq.mpr c7
   have c7b1:(a0 != 13)=false:=bne_eq_false_iff_eq.mpr c7
   clear c7
   (first|rw [c7b0]|(simp only [zqw,zqx];rw [c7b0])|skip)
   have H':=zq.mk H
   clear H
   go_wp2
   go_meet
   case rel=>exact⟨_,(false),vr,H',⟨by first|omega|exact Nat.le_refl _⟩,⟨by(with_reducible repeat(first|refine zn ?_ _|refine zt ?_|refine zy ?_ _));exact BK217.out⟩,⟨by(with_reducible repeat(first|refine zn ?_ _|refine zt ?_|refine zy ?_ _));exact BK218.out⟩,⟨bw⟩⟩
  rw [if_neg c7] at H
  have c7b0:(a0 == 13)=false:=beq_eq_false_iff_ne.mpr c7
  have c7b1:(a0 != 13)=true:=bne_iff_ne.mpr c7
  (first|rw [c7b0]|(simp only [zqw,zqx];rw [c7b0])|skip)
  by_cases c8:a0=14
  ·rw [if_pos c8] at H
   have c8b0:(a0 == 14)=true:=beq_iff_eq.mpr c8
   have c8b1:(a0 != 14)=false:=bne_eq_false_iff_eq.mpr c8
   clear c8
   have H':=zq.mk H
   clear H
   go_wp2
   go_meet
   case rel=>exact⟨_,(false),vr,H',⟨by first|omega|exact Nat.le_refl _⟩,⟨by(with_reducible repeat(first|refine zn ?_ _|refine zt ?_|refine zy ?_ _));exact BK217.out⟩,⟨by(with_reducible repeat(first|refine zn ?_ _|refine zt ?_|refine zy ?_ _));exact BK218.out⟩,⟨bw⟩⟩
  rw [if_neg c8] at H
  have c8b0:(a0 == 14)=false:=beq_eq_false_iff_ne.mpr c8
  have c8b1:(a0 != 14)=true:=bne_iff_ne.mpr c8
  by_cases c9:a0=15
  ·rw [if_pos c9] at H
   have c9b0:(a0 == 15)=true:=beq_iff_eq.mpr c9
   have c9b1:(a0 != 15)=false:=bne_eq_false_iff_eq.mpr c9
   clear c9
   have H':=zq.mk H
   clear H
   go_wp2
   go_meet
   case rel=>exact⟨_,(false),vr,H',⟨by first|omega|exact Nat.le_refl _⟩,⟨by(with_reducible repeat(first|refine zn ?_ _|refine zt ?_|refine zy ?_ _));exact BK217.out⟩,⟨by(with_reducible repeat(first|refine zn ?_ _|refine zt ?_|refine zy ?_ _));exact BK218.out⟩,⟨bw⟩⟩
  rw [if_neg c9] at H
  have c9b0:(a0 == 15)=false:=beq_eq_false_iff_ne.mpr c9
  have c9b1:(a0 != 15)=true:=bne_iff_ne.mpr c9
  by_cases c10:a0=16
  ·rw [if_pos c10] at H
   have c10b0:(a0 == 16)=true:=beq_iff_eq.mpr c10
   have c10b1:(a0 != 16)=false:=bne_eq_false_iff_eq.mpr c10
   clear c10
   have H':=zq.mk H
   clear H
   go_wp2
   go_meet
   case rel=>exact⟨_,(false),vr,H',⟨by first|omega|exact Nat.le_refl _⟩,⟨by(with_reducible repeat(first|refine zn ?_ _|refine zt ?_|refine zy ?_ _));exact BK217.out⟩,⟨by(with_reducible repeat(first|refine zn ?_ _|refine zt ?_|refine zy ?_ _));exact BK218.out⟩,⟨bw⟩⟩
  rw [if_neg c10] at H
  have c10b0:(a0 == 16)=false:=beq_eq_false_iff_ne.mpr c10
  have c10b1:(a0 != 16)=true:=bne_iff_ne.mpr c10
  by_cases c11:a0=17
  ·rw [if_pos c11] at H
   have c11b0:(a0 == 17)=true:=beq_iff_eq.mpr c11
   have c11b1:(a0 != 17)=false:=bne_eq_false_iff_eq.mpr c11
   clear c11
   have H':=zq.mk H
   clear H
   go_wp2
   go_meet
   case rel=>exact⟨_,(false),vr,H',⟨by first|omega|exact Nat.le_refl _⟩,⟨by(with_reducible repeat(first|refine zn ?_ _|refine zt ?_|refine zy ?_ _));exact BK217.out⟩,⟨by(with_reducible repeat(first|refine zn ?_ _|refine zt ?_|refine zy ?_ _));exact BK218.out⟩,⟨bw⟩⟩
  rw [if_neg c11] at H
  have c11b0:(a0 == 17)=false:=beq_eq_false_iff_ne.mpr c11
  have c11b1:(a0 != 17)=true:=bne_iff_ne.mpr c11
  have H':=zq.mk H
  clear H
  go_wp2
  go_meet
  case rel=>exact⟨_,((a0 != 18)),vr,H',⟨by first|omega|exact Nat.le_refl _⟩,⟨by(with_reducible repeat(first|refine zn ?_ _|refine zt ?_|refine zy ?_ _));exact BK217.out⟩,⟨by(with_reducible repeat(first|refine zn ?_ _|refine zt ?_|refine zy ?_ _));exact BK218.out⟩,⟨bw⟩⟩
 case rest=>
  clear HC4
  obtain ⟨kq,x31_3,rfl,HA,HJ3,BK217,BK218,HB⟩:=hcut
  cases kq with
  | zero=>exact absurd HA.out (by simp [ze.j0])
  | succ kj3=>
   have H:=HA.out
   clear HA
   simp only [ze.j0] at H
   by_cases c12:x31_3=true
   ·subst c12
    rw [if_pos rfl] at H
    simp only [Option.some.injEq,Prod.mk.injEq] at H
    obtain ⟨rfl,rfl⟩:=H
    go_wp2
    go_ret2
    exact⟨by first|rfl|(simp [zk,zx] <;> rfl)|(simp [*,zk,zx] <;> rfl),bw⟩
   replace c12:=Bool.eq_false_iff.mpr c12
   subst c12
   rw [if_neg (show ¬ (false=true) by decide)] at H
   replace H:=Option.bind_eq_some_iff.mp H
   obtain ⟨⟨t219,t220⟩,A130,H⟩:=H
   replace H:(if t220=0 then(if a1_0=0 then(ze.j1 kj3 a0 t219 true a1_0 a1_1 a1_2 a2_0 a2_1 a2_2) else (ze.j1 kj3 a0 t219 (a2_0 == 0) a1_0 a1_1 a1_2 a2_0 a2_1 a2_2)) else (some (0,t220)))=some (r1,r2):=H
   have A13:=zq.mk A130
   clear A130
   by_cases c14:t220=0
   ·rw [if_pos c14] at H
    have c14b0:(t220 == 0)=true:=beq_iff_eq.mpr c14
    have c14b1:(t220 != 0)=false:=bne_eq_false_iff_eq.mpr c14
    clear c14
    have HC15:=zq.mk H
    clear H
    have hnb16:=NB217_218.out
    have hnc16:=NB218_217.out
    obtain ⟨hcz17_0,hcz17_1,hcz17_2,hfz17_0,hfz17_1,hfz17_2⟩:=zr BK217.out
    obtain ⟨hcz18_0,hcz18_1,hcz18_2,hfz18_0,hfz18_1,hfz18_2⟩:=zr BK218.out
    go_upto_region 6 with (first|((with_reducible refine zs (f:=110) rfl ?_);refine qo (some 35) rfl rfl Tryd.func110 (by kernel_rfl) rfl #[.agg #[.int .i64 a1_0,.int .i64 a1_1,.string a1_2],.agg #[.int .i64 a2_0,.int .i64 a2_1,.string a2_2]] rfl gs ?_;(with_reducible refine(zqc.calls kj3 a1_0 a1_1 a1_2 a2_0 a2_1 a2_2 t219 t220 _ A13.out).mono ?_);rintro e w19 ⟨rfl,hb⟩;refine⟨_,rfl,?_⟩;replace BK217:=zq.mk (zf (g:=gb217) (o:=.cells #[.int .i64 a1_0,.int .i64 a1_1,.string a1_2] 30 (0,0)) (up BK217.out) hb);replace BK218:=zq.mk (zf (g:=gb218) (o:=.cells #[.int .i64 a2_0,.int .i64 a2_1,.string a2_2] 30 (0,0)) (up BK218.out) hb);replace HB:=zq.mk (zb bw hb);(try clear hb);(try clear hb2);(try clear hk);(try clear hi)))
    (try simp only [Act.put,List.setIfInBounds_toArray,List.set_cons_zero,List.set_cons_succ])
    go_cut [48] (fun v48 wc => ∃ (kq:Nat) (x48_14:Bool),v48 = .bool x48_14∧zq (ze.j1 kq a0 t219 x48_14 a1_0 a1_1 a1_2 a2_0 a2_1 a2_2=some (r1,r2))∧zq (kq≤kj3)∧zq (wc.heap[gb217]? = some (.cells #[.int .i64 a1_0,.int .i64 a1_1,.string a1_2] 30 (0,0)))∧zq (wc.heap[gb218]? = some (.cells #[.int .i64 a2_0,.int .i64 a2_1,.string a2_2] 30 (0,0)))∧zq (Below w.heap.size w wc))
    case first=>
     have H:=HC15.out
     clear HC15
     by_cases c20:a1_0=0
     ·rw [if_pos c20] at H
      have c20b0:(a1_0 == 0)=true:=beq_iff_eq.mpr c20
      have c20b1:(a1_0 != 0)=false:=bne_eq_false_iff_eq.mpr c20
      clear c20
      (first|rw [c20b0]|(simp only [zqw,zqx];rw [c20b0])|skip)
      have H':=zq.mk H
      clear H
      have hnb21:=NB217_218.out
      have hnc21:=NB218_217.out
      obtain ⟨hcz22_0,hcz22_1,hcz22_2,hfz22_0,hfz22_1,hfz22_2⟩:=zr BK217.out
      go_wp2
      go_meet
      case rel=>exact⟨_,(true),vr,H',⟨by have:=HJ3.out;first|omega|exact Nat.le_refl _⟩,⟨by(with_reducible repeat(first|refine zn ?_ _|refine zt ?_|refine zy ?_ _));exact BK217.out⟩,⟨by(with_reducible repeat(first|refine zn ?_ _|refine zt ?_|refine zy ?_ _));exact BK218.out⟩,⟨bw⟩⟩
     rw [if_neg c20] at H
     have c20b0:(a1_0 == 0)=false:=beq_eq_false_iff_ne.mpr c20
     have c20b1:(a1_0 != 0)=true:=bne_iff_ne.mpr c20
     (first|rw [c20b0]|(simp only [zqw,zqx];rw [c20b0])|skip)
     have H':=zq.mk H
     clear H
     have hnb23:=NB217_218.out
     have hnc23:=NB218_217.out
     obtain ⟨hcz24_0,hcz24_1,hcz24_2,hfz24_0,hfz24_1,hfz24_2⟩:=zr BK217.out
     obtain ⟨hcz25_0,hcz25_1,hcz25_2,hfz25_0,hfz25_1,hfz25_2⟩:=zr BK218.out
     go_wp2
     go_meet
     case rel=>exact⟨_,((a2_0 == 0)),vr,H',⟨by have:=HJ3.out;first|omega|exact Nat.le_refl _⟩,⟨by(with_reducible repeat(first|refine zn ?_ _|refine zt ?_|refine zy ?_ _));exact BK217.out⟩,⟨by(with_reducible repeat(first|refine zn ?_ _|refine zt ?_|refine zy ?_ _));exact BK218.out⟩,⟨bw⟩⟩
    case rest=>
     clear HC15
     (try clear c12);(try clear c14);(try clear c14b0);(try clear c14b1);(try clear hcz17_0);(try clear hcz17_1);(try clear hcz17_2);(try clear hcz18_0);(try clear hcz18_1);(try clear hcz18_2);(try clear hfz17_0);(try clear hfz17_1);(try clear hfz17_2);(try clear hfz18_0);(try clear hfz18_1);(try clear hfz18_2)
     obtain ⟨kq,x48_14,rfl,HA,HJ14,BK217,BK218,HB⟩:=hcut
     cases kq with
     | zero=>exact absurd HA.out (by simp [ze.j1])
     | succ kj14=>
      have H:=HA.out
      clear HA
      simp only [ze.j1] at H
      by_cases c26:x48_14=true
      ·subst c26
       rw [if_pos rfl] at H
       simp only [Option.some.injEq,Prod.mk.injEq] at H
       obtain ⟨rfl,rfl⟩:=H
       go_wp2
       go_ret2
       exact⟨by first|rfl|(simp [zk,zx] <;> rfl)|(simp [*,zk,zx] <;> rfl),bw⟩
      replace c26:=Bool.eq_false_iff.mpr c26
      subst c26
      rw [if_neg (show ¬ (false=true) by decide)] at H
      by_cases c27:a1_0=a2_0
      ·rw [if_pos c27] at H
       have c27b0:(a1_0 == a2_0)=true:=beq_iff_eq.mpr c27
       have c27b1:(a1_0 != a2_0)=false:=bne_eq_false_iff_eq.mpr c27
       clear c27
       by_cases c28:a0=13
       ·rw [if_pos c28] at H
        have c28b0:(a0 == 13)=true:=beq_iff_eq.mpr c28
        have c28b1:(a0 != 13)=false:=bne_eq_false_iff_eq.mpr c28
        clear c28
        by_cases c29:t219=0
        ·rw [if_pos c29] at H
         have c29b0:(t219 == 0)=true:=beq_iff_eq.mpr c29
         have c29b1:(t219 != 0)=false:=bne_eq_false_iff_eq.mpr c29
         clear c29
         simp only [Option.some.injEq,Prod.mk.injEq] at H
         obtain ⟨rfl,rfl⟩:=H
         have hnb30:=NB217_218.out
         have hnc30:=NB218_217.out
         obtain ⟨hcz31_0,hcz31_1,hcz31_2,hfz31_0,hfz31_1,hfz31_2⟩:=zr BK217.out
         obtain ⟨hcz32_0,hcz32_1,hcz32_2,hfz32_0,hfz32_1,hfz32_2⟩:=zr BK218.out
         go_wp2
         go_ret2
         exact⟨by first|rfl|(simp [zk,zx] <;> rfl)|(simp [*,zk,zx] <;> rfl),bw⟩
        rw [if_neg c29] at H
        have c29b0:(t219 == 0)=false:=beq_eq_false_iff_ne.mpr c29
        have c29b1:(t219 != 0)=true:=bne_iff_ne.mpr c29
        by_cases c33:a0=14
        ·rw [if_pos c33] at H
         have c33b0:(a0 == 14)=true:=beq_iff_eq.mpr c33
         have c33b1:(a0 != 14)=false:=bne_eq_false_iff_eq.mpr c33
         clear c33
         simp only [Option.some.injEq,Prod.mk.injEq] at H
         obtain ⟨rfl,rfl⟩:=H
         have hnb34:=NB217_218.out
         have hnc34:=NB218_217.out
         obtain ⟨hcz35_0,hcz35_1,hcz35_2,hfz35_0,hfz35_1,hfz35_2⟩:=zr BK217.out
         obtain ⟨hcz36_0,hcz36_1,hcz36_2,hfz36_0,hfz36_1,hfz36_2⟩:=zr BK218.out
         go_wp2
         go_ret2
         exact⟨by first|rfl|(simp [zk,zx] <;> rfl)|(simp [*,zk,zx] <;> rfl),bw⟩
        rw [if_neg c33] at H
        have c33b0:(a0 == 14)=false:=beq_eq_false_iff_ne.mpr c33
        have c33b1:(a0 != 14)=true:=bne_iff_ne.mpr c33
        by_cases c37:a0=15
        ·rw [if_pos c37] at H
         have c37b0:(a0 == 15)=true:=beq_iff_eq.mpr c37
         have c37b1:(a0 != 15)=false:=bne_eq_false_iff_eq.mpr c37
         clear c37
         by_cases c38:t219<0
         ·rw [if_pos c38] at H
          have c38b0:=decide_eq_true c38
          clear c38
          simp only [Option.some.injEq,Prod.mk.injEq] at H
          obtain ⟨rfl,rfl⟩:=H
          have hnb39:=NB217_218.out
          have hnc39:=NB218_217.out
          obtain ⟨hcz40_0,hcz40_1,hcz40_2,hfz40_0,hfz40_1,hfz40_2⟩:=zr BK217.out
          obtain ⟨hcz41_0,hcz41_1,hcz41_2,hfz41_0,hfz41_1,hfz41_2⟩:=zr BK218.out
          go_wp2
          go_ret2
          exact⟨by first|rfl|(simp [zk,zx] <;> rfl)|(simp [*,zk,zx] <;> rfl),bw⟩
         rw [if_neg c38] at H
         have c38b0:=decide_eq_false c38
         clear c38
         by_cases c42:a0=16
         ·rw [if_pos c42] at H
          have c42b0:(a0 == 16)=true:=beq_iff_eq.mpr c42
          have c42b1:(a0 != 16)=false:=bne_eq_false_iff_eq.mpr c42
          clear c42
          by_cases c43:t219≤0
          ·rw [if_pos c43] at H
           have c43b0:=decide_eq_true c43
           clear c43
           simp only [Option.some.injEq,Prod.mk.injEq] at H
           obtain ⟨rfl,rfl⟩:=H
           have hnb44:=NB217_218.out
           have hnc44:=NB218_217.out
           obtain ⟨hcz45_0,hcz45_1,hcz45_2,hfz45_0,hfz45_1,hfz45_2⟩:=zr BK217.out
           obtain ⟨hcz46_0,hcz46_1,hcz46_2,hfz46_0,hfz46_1,hfz46_2⟩:=zr BK218.out
           go_wp2
           go_ret2
           exact⟨by first|rfl|(simp [zk,zx] <;> rfl)|(simp [*,zk,zx] <;> rfl),bw⟩
          rw [if_neg c43] at H
          have c43b0:=decide_eq_false c43
          clear c43
          by_cases c47:a0=17
          ·rw [if_pos c47] at H
           have c47b0:(a0 == 17)=true:=beq_iff_eq.mpr c47
           have c47b1:(a0 != 17)=false:=bne_eq_false_iff_eq.mpr c47
           clear c47
           by_cases c48:t219 > 0
           ·rw [if_pos c48] at H
            have c48b0:=decide_eq_true c48
            clear c48
            simp only [Option.some.injEq,Prod.mk.injEq] at H
            obtain ⟨rfl,rfl⟩:=H
            have hnb49:=NB217_218.out
            have hnc49:=NB218_217.out
            obtain ⟨hcz50_0,hcz50_1,hcz50_2,hfz50_0,hfz50_1,hfz50_2⟩:=zr BK217.out
            obtain ⟨hcz51_0,hcz51_1,hcz51_2,hfz51_0,hfz51_1,hfz51_2⟩:=zr BK218.out
            go_wp2
            go_ret2
            exact⟨by first|rfl|(simp [zk,zx] <;> rfl)|(simp [*,zk,zx] <;> rfl),bw⟩
           rw [if_neg c48] at H
           have c48b0:=decide_eq_false c48
           clear c48
           by_cases c52:a0=18
           ·rw [if_pos c52] at H
            have c52b0:(a0 == 18)=true:=beq_iff_eq.mpr c52
            have c52b1:(a0 != 18)=false:=bne_eq_false_iff_eq.mpr c52
            clear c52
            by_cases c53:t219 ≥ 0
            ·rw [if_pos c53] at H
             have c53b0:=decide_eq_true c53
             clear c53
             simp only [Option.some.injEq,Prod.mk.injEq] at H
             obtain ⟨rfl,rfl⟩:=H
             have hnb54:=NB217_218.out
             have hnc54:=NB218_217.out
             obtain ⟨hcz55_0,hcz55_1,hcz55_2,hfz55_0,hfz55_1,hfz55_2⟩:=zr BK217.out
             obtain ⟨hcz56_0,hcz56_1,hcz56_2,hfz56_0,hfz56_1,hfz56_2⟩:=zr BK218.out
             go_wp2
             go_ret2
             exact⟨by first|rfl|(simp [zk,zx] <;> rfl)|(simp [*,zk,zx] <;> rfl),bw⟩
            rw [if_neg c53] at H
            have c53b0:=decide_eq_false c53
            clear c53
            simp only [Option.some.injEq,Prod.mk.injEq] at H
            obtain ⟨rfl,rfl⟩:=H
            have hnb57:=NB217_218.out
            have hnc57:=NB218_217.out
            obtain ⟨hcz58_0,hcz58_1,hcz58_2,hfz58_0,hfz58_1,hfz58_2⟩:=zr BK217.out
            obtain ⟨hcz59_0,hcz59_1,hcz59_2,hfz59_0,hfz59_1,hfz59_2⟩:=zr BK218.out
            go_wp2
            go_ret2
            exact⟨by first|rfl|(simp [zk,zx] <;> rfl)|(simp [*,zk,zx] <;> rfl),bw⟩
           rw [if_neg c52] at H
           have c52b0:(a0 == 18)=false:=beq_eq_false_iff_ne.mpr c52
           have c52b1:(a0 != 18)=true:=bne_iff_ne.mpr c52
           simp only [Option.some.injEq,Prod.mk.injEq] at H
           obtain ⟨rfl,rfl⟩:=H
           have hnb60:=NB217_218.out
           have hnc60:=NB218_217.out
           obtain ⟨hcz61_0,hcz61_1,hcz61_2,hfz61_0,hfz61_1,hfz61_2⟩:=zr BK217.out
           obtain ⟨hcz62_0,hcz62_1,hcz62_2,hfz62_0,hfz62_1,hfz62_2⟩:=zr BK218.out
           go_wp2
           go_ret2
           exact⟨by first|rfl|(simp [zk,zx] <;> rfl)|(simp [*,zk,zx] <;> rfl),bw⟩
          rw [if_neg c47] at H
          have c47b0:(a0 == 17)=false:=beq_eq_false_iff_ne.mpr c47
          have c47b1:(a0 != 17)=true:=bne_iff_ne.mpr c47
          by_cases c63:a0=18
          ·rw [if_pos c63] at H
           have c63b0:(a0 == 18)=true:=beq_iff_eq.mpr c63
           have c63b1:(a0 != 18)=false:=bne_eq_false_iff_eq.mpr c63
           clear c63
           by_cases c64:t219 ≥ 0
           ·rw [if_pos c64] at H
            have c64b0:=decide_eq_true c64
            clear c64
            simp only [Option.some.injEq,Prod.mk.injEq] at H
            obtain ⟨rfl,rfl⟩:=H
            have hnb65:=NB217_218.out
            have hnc65:=NB218_217.out
            obtain ⟨hcz66_0,hcz66_1,hcz66_2,hfz66_0,hfz66_1,hfz66_2⟩:=zr BK217.out
            obtain ⟨hcz67_0,hcz67_1,hcz67_2,hfz67_0,hfz67_1,hfz67_2⟩:=zr BK218.out
            go_wp2
            go_ret2
            exact⟨by first|rfl|(simp [zk,zx] <;> rfl)|(simp [*,zk,zx] <;> rfl),bw⟩
           rw [if_neg c64] at H
           have c64b0:=decide_eq_false c64
           clear c64
           simp only [Option.some.injEq,Prod.mk.injEq] at H
           obtain ⟨rfl,rfl⟩:=H
           have hnb68:=NB217_218.out
           have hnc68:=NB218_217.out
           obtain ⟨hcz69_0,hcz69_1,hcz69_2,hfz69_0,hfz69_1,hfz69_2⟩:=zr BK217.out
           obtain ⟨hcz70_0,hcz70_1,hcz70_2,hfz70_0,hfz70_1,hfz70_2⟩:=zr BK218.out
           go_wp2
           go_ret2
           exact⟨by first|rfl|(simp [zk,zx] <;> rfl)|(simp [*,zk,zx] <;> rfl),bw⟩
          rw [if_neg c63] at H
          have c63b0:(a0 == 18)=false:=beq_eq_false_iff_ne.mpr c63
          have c63b1:(a0 != 18)=true:=bne_iff_ne.mpr c63
          simp only [Option.some.injEq,Prod.mk.injEq] at H
          obtain ⟨rfl,rfl⟩:=H
          have hnb71:=NB217_218.out
          have hnc71:=NB218_217.out
          obtain ⟨hcz72_0,hcz72_1,hcz72_2,hfz72_0,hfz72_1,hfz72_2⟩:=zr BK217.out
          obtain ⟨hcz73_0,hcz73_1,hcz73_2,hfz73_0,hfz73_1,hfz73_2⟩:=zr BK218.out
          go_wp2
          go_ret2
          exact⟨by first|rfl|(simp [zk,zx] <;> rfl)|(simp [*,zk,zx] <;> rfl),bw⟩
         rw [if_neg c42] at H
         have c42b0:(a0 == 16)=false:=beq_eq_false_iff_ne.mpr c42
         have c42b1:(a0 != 16)=true:=bne_iff_ne.mpr c42
         by_cases c74:a0=17
         ·rw [if_pos c74] at H
          have c74b0:(a0 == 17)=true:=beq_iff_eq.mpr c74
          have c74b1:(a0 != 17)=false:=bne_eq_false_iff_eq.mpr c74
          clear c74
          by_cases c75:t219 > 0
          ·rw [if_pos c75] at H
           have c75b0:=decide_eq_true c75
           clear c75
           simp only [Option.some.injEq,Prod.mk.injEq] at H
           obtain ⟨rfl,rfl⟩:=H
           have hnb76:=NB217_218.out
           have hnc76:=NB218_217.out
           obtain ⟨hcz77_0,hcz77_1,hcz77_2,hfz77_0,hfz77_1,hfz77_2⟩:=zr BK217.out
           obtain ⟨hcz78_0,hcz78_1,hcz78_2,hfz78_0,hfz78_1,hfz78_2⟩:=zr BK218.out
           go_wp2
           go_ret2
           exact⟨by first|rfl|(simp [zk,zx] <;> rfl)|(simp [*,zk,zx] <;> rfl),bw⟩
          rw [if_neg c75] at H
          have c75b0:=decide_eq_false c75
          clear c75
          by_cases c79:a0=18
          ·rw [if_pos c79] at H
           have c79b0:(a0 == 18)=true:=beq_iff_eq.mpr c79
           have c79b1:(a0 != 18)=false:=bne_eq_false_iff_eq.mpr c79
           clear c79
           by_cases c80:t219 ≥ 0
           ·rw [if_pos c80] at H
            have c80b0:=decide_eq_true c80
            clear c80
            simp only [Option.some.injEq,Prod.mk.injEq] at H
            obtain ⟨rfl,rfl⟩:=H
            have hnb81:=NB217_218.out
            have hnc81:=NB218_217.out
            obtain ⟨hcz82_0,hcz82_1,hcz82_2,hfz82_0,hfz82_1,hfz82_2⟩:=zr BK217.out
            obtain ⟨hcz83_0,hcz83_1,hcz83_2,hfz83_0,hfz83_1,hfz83_2⟩:=zr BK218.out
            go_wp2
            go_ret2
            exact⟨by first|rfl|(simp [zk,zx] <;> rfl)|(simp [*,zk,zx] <;> rfl),bw⟩
           rw [if_neg c80] at H
           have c80b0:=decide_eq_false c80
           clear c80
           simp only [Option.some.injEq,Prod.mk.injEq] at H
           obtain ⟨rfl,rfl⟩:=H
           have hnb84:=NB217_218.out
           have hnc84:=NB218_217.out
           obtain ⟨hcz85_0,hcz85_1,hcz85_2,hfz85_0,hfz85_1,hfz85_2⟩:=zr BK217.out
           obtain ⟨hcz86_0,hcz86_1,hcz86_2,hfz86_0,hfz86_1,hfz86_2⟩:=zr BK218.out
           go_wp2
           go_ret2
           exact⟨by first|rfl|(simp [zk,zx] <;> rfl)|(simp [*,zk,zx] <;> rfl),bw⟩
          rw [if_neg c79] at H
          have c79b0:(a0 == 18)=false:=beq_eq_false_iff_ne.mpr c79
          have c79b1:(a0 != 18)=true:=bne_iff_ne.mpr c79
          simp only [Option.some.injEq,Prod.mk.injEq] at H
          obtain ⟨rfl,rfl⟩:=H
          have hnb87:=NB217_218.out
          have hnc87:=NB218_217.out
          obtain ⟨hcz88_0,hcz88_1,hcz88_2,hfz88_0,hfz88_1,hfz88_2⟩:=zr BK217.out
          obtain ⟨hcz89_0,hcz89_1,hcz89_2,hfz89_0,hfz89_1,hfz89_2⟩:=zr BK218.out
          go_wp2
          go_ret2
          exact⟨by first|rfl|(simp [zk,zx] <;> rfl)|(simp [*,zk,zx] <;> rfl),bw⟩
         rw [if_neg c74] at H
         have c74b0:(a0 == 17)=false:=beq_eq_false_iff_ne.mpr c74
         have c74b1:(a0 != 17)=true:=bne_iff_ne.mpr c74
         by_cases c90:a0=18
         ·rw [if_pos c90] at H
          have c90b0:(a0 == 18)=true:=beq_iff_eq.mpr c90
          have c90b1:(a0 != 18)=false:=bne_eq_false_iff_eq.mpr c90
          clear c90
          by_cases c91:t219 ≥ 0
          ·rw [if_pos c91] at H
           have c91b0:=decide_eq_true c91
           clear c91
           simp only [Option.some.injEq,Prod.mk.injEq] at H
           obtain ⟨rfl,rfl⟩:=H
           have hnb92:=NB217_218.out
           have hnc92:=NB218_217.out
           obtain ⟨hcz93_0,hcz93_1,hcz93_2,hfz93_0,hfz93_1,hfz93_2⟩:=zr BK217.out
           obtain ⟨hcz94_0,hcz94_1,hcz94_2,hfz94_0,hfz94_1,hfz94_2⟩:=zr BK218.out
           go_wp2
           go_ret2
           exact⟨by first|rfl|(simp [zk,zx] <;> rfl)|(simp [*,zk,zx] <;> rfl),bw⟩
          rw [if_neg c91] at H
          have c91b0:=decide_eq_false c91
          clear c91
          simp only [Option.some.injEq,Prod.mk.injEq] at H
          obtain ⟨rfl,rfl⟩:=H
          have hnb95:=NB217_218.out
          have hnc95:=NB218_217.out
          obtain ⟨hcz96_0,hcz96_1,hcz96_2,hfz96_0,hfz96_1,hfz96_2⟩:=zr BK217.out
          obtain ⟨hcz97_0,hcz97_1,hcz97_2,hfz97_0,hfz97_1,hfz97_2⟩:=zr BK218.out
          go_wp2
          go_ret2
          exact⟨by first|rfl|(simp [zk,zx] <;> rfl)|(simp [*,zk,zx] <;> rfl),bw⟩
         rw [if_neg c90] at H
         have c90b0:(a0 == 18)=false:=beq_eq_false_iff_ne.mpr c90
         have c90b1:(a0 != 18)=true:=bne_iff_ne.mpr c90
         simp only [Option.some.injEq,Prod.mk.injEq] at H
         obtain ⟨rfl,rfl⟩:=H
         have hnb98:=NB217_218.out
         have hnc98:=NB218_217.out
         obtain ⟨hcz99_0,hcz99_1,hcz99_2,hfz99_0,hfz99_1,hfz99_2⟩:=zr BK217.out
         obtain ⟨hcz100_0,hcz100_1,hcz100_2,hfz100_0,hfz100_1,hfz100_2⟩:=zr BK218.out
         go_wp2
         go_ret2
         exact⟨by first|rfl|(simp [zk,zx] <;> rfl)|(simp [*,zk,zx] <;> rfl),bw⟩
        rw [if_neg c37] at H
        have c37b0:(a0 == 15)=false:=beq_eq_false_iff_ne.mpr c37
        have c37b1:(a0 != 15)=true:=bne_iff_ne.mpr c37
        by_cases c101:a0=16
        ·rw [if_pos c101] at H
         have c101b0:(a0 == 16)=true:=beq_iff_eq.mpr c101
         have c101b1:(a0 != 16)=false:=bne_eq_false_iff_eq.mpr c101
         clear c101
         by_cases c102:t219≤0
         ·rw [if_pos c102] at H
          have c102b0:=decide_eq_true c102
          clear c102
          simp only [Option.some.injEq,Prod.mk.injEq] at H
          obtain ⟨rfl,rfl⟩:=H
          have hnb103:=NB217_218.out
          have hnc103:=NB218_217.out
          obtain ⟨hcz104_0,hcz104_1,hcz104_2,hfz104_0,hfz104_1,hfz104_2⟩:=zr BK217.out
          obtain ⟨hcz105_0,hcz105_1,hcz105_2,hfz105_0,hfz105_1,hfz105_2⟩:=zr BK218.out
          go_wp2
          go_ret2
          exact⟨by first|rfl|(simp [zk,zx] <;> rfl)|(simp [*,zk,zx] <;> rfl),bw⟩
         rw [if_neg c102] at H
         have c102b0:=decide_eq_false c102
         clear c102
         by_cases c106:a0=17
         ·rw [if_pos c106] at H
          have c106b0:(a0 == 17)=true:=beq_iff_eq.mpr c106
          have c106b1:(a0 != 17)=false:=bne_eq_false_iff_eq.mpr c106
          clear c106
          by_cases c107:t219 > 0
          ·rw [if_pos c107] at H
           have c107b0:=decide_eq_true c107
           clear c107
           simp only [Option.some.injEq,Prod.mk.injEq] at H
           obtain ⟨rfl,rfl⟩:=H
           have hnb108:=NB217_218.out
           have hnc108:=NB218_217.out
           obtain ⟨hcz109_0,hcz109_1,hcz109_2,hfz109_0,hfz109_1,hfz109_2⟩:=zr BK217.out
           obtain ⟨hcz110_0,hcz110_1,hcz110_2,hfz110_0,hfz110_1,hfz110_2⟩:=zr BK218.out
           go_wp2
           go_ret2
           exact⟨by first|rfl|(simp [zk,zx] <;> rfl)|(simp [*,zk,zx] <;> rfl),bw⟩
          rw [if_neg c107] at H
          have c107b0:=decide_eq_false c107
          clear c107
          by_cases c111:a0=18
          ·rw [if_pos c111] at H
           have c111b0:(a0 == 18)=true:=beq_iff_eq.mpr c111
           have c111b1:(a0 != 18)=false:=bne_eq_false_iff_eq.mpr c111
           clear c111
           by_cases c112:t219 ≥ 0
           ·rw [if_pos c112] at H
            have c112b0:=decide_eq_true c112
            clear c112
            simp only [Option.some.injEq,Prod.mk.injEq] at H
            obtain ⟨rfl,rfl⟩:=H
            have hnb113:=NB217_218.out
            have hnc113:=NB218_217.out
            obtain ⟨hcz114_0,hcz114_1,hcz114_2,hfz114_0,hfz114_1,hfz114_2⟩:=zr BK217.out
            obtain ⟨hcz115_0,hcz115_1,hcz115_2,hfz115_0,hfz115_1,hfz115_2⟩:=zr BK218.out
            go_wp2
            go_ret2
            exact⟨by first|rfl|(simp [zk,zx] <;> rfl)|(simp [*,zk,zx] <;> rfl),bw⟩
           rw [if_neg c112] at H
           have c112b0:=decide_eq_false c112
           clear c112
           simp only [Option.some.injEq,Prod.mk.injEq] at H
           obtain ⟨rfl,rfl⟩:=H
           have hnb116:=NB217_218.out
           have hnc116:=NB218_217.out
           obtain ⟨hcz117_0,hcz117_1,hcz117_2,hfz117_0,hfz117_1,hfz117_2⟩:=zr BK217.out
           obtain ⟨hcz118_0,hcz118_1,hcz118_2,hfz118_0,hfz118_1,hfz118_2⟩:=zr BK218.out
           go_wp2
           go_ret2
           exact⟨by first|rfl|(simp [zk,zx] <;> rfl)|(simp [*,zk,zx] <;> rfl),bw⟩
          rw [if_neg c111] at H
          have c111b0:(a0 == 18)=false:=beq_eq_false_iff_ne.mpr c111
          have c111b1:(a0 != 18)=true:=bne_iff_ne.mpr c111
          simp only [Option.some.injEq,Prod.mk.injEq] at H
          obtain ⟨rfl,rfl⟩:=H
          have hnb119:=NB217_218.out
          have hnc119:=NB218_217.out
          obtain ⟨hcz120_0,hcz120_1,hcz120_2,hfz120_0,hfz120_1,hfz120_2⟩:=zr BK217.out
          obtain ⟨hcz121_0,hcz121_1,hcz121_2,hfz121_0,hfz121_1,hfz121_2⟩:=zr BK218.out
          go_wp2
          go_ret2
          exact⟨by first|rfl|(simp [zk,zx] <;> rfl)|(simp [*,zk,zx] <;> rfl),bw⟩
         rw [if_neg c106] at H
         have c106b0:(a0 == 17)=false:=beq_eq_false_iff_ne.mpr c106
         have c106b1:(a0 != 17)=true:=bne_iff_ne.mpr c106
         by_cases c122:a0=18
         ·rw [if_pos c122] at H
          have c122b0:(a0 == 18)=true:=beq_iff_eq.mpr c122
          have c122b1:(a0 != 18)=false:=bne_eq_false_iff_eq.mpr c122
          clear c122
          by_cases c123:t219 ≥ 0
          ·rw [if_pos c123] at H
           have c123b0:=decide_eq_true c123
           clear c123
           simp only [Option.some.injEq,Prod.mk.injEq] at H
           obtain ⟨rfl,rfl⟩:=H
           have hnb124:=NB217_218.out
           have hnc124:=NB218_217.out
           obtain ⟨hcz125_0,hcz125_1,hcz125_2,hfz125_0,hfz125_1,hfz125_2⟩:=zr BK217.out
           obtain ⟨hcz126_0,hcz126_1,hcz126_2,hfz126_0,hfz126_1,hfz126_2⟩:=zr BK218.out
           go_wp2
           go_ret2
           exact⟨by first|rfl|(simp [zk,zx] <;> rfl)|(simp [*,zk,zx] <;> rfl),bw⟩
          rw [if_neg c123] at H
          have c123b0:=decide_eq_false c123
          clear c123
          simp only [Option.some.injEq,Prod.mk.injEq] at H
          obtain ⟨rfl,rfl⟩:=H
          have hnb127:=NB217_218.out
          have hnc127:=NB218_217.out
          obtain ⟨hcz128_0,hcz128_1,hcz128_2,hfz128_0,hfz128_1,hfz128_2⟩:=zr BK217.out
          obtain ⟨hcz129_0,hcz129_1,hcz129_2,hfz129_0,hfz129_1,hfz129_2⟩:=zr BK218.out
          go_wp2
          go_ret2
          exact⟨by first|rfl|(simp [zk,zx] <;> rfl)|(simp [*,zk,zx] <;> rfl),bw⟩
         rw [if_neg c122] at H
         have c122b0:(a0 == 18)=false:=beq_eq_false_iff_ne.mpr c122
         have c122b1:(a0 != 18)=true:=bne_iff_ne.mpr c122
         simp only [Option.some.injEq,Prod.mk.injEq] at H
         obtain ⟨rfl,rfl⟩:=H
         have hnb130:=NB217_218.out
         have hnc130:=NB218_217.out
         obtain ⟨hcz131_0,hcz131_1,hcz131_2,hfz131_0,hfz131_1,hfz131_2⟩:=zr BK217.out
         obtain ⟨hcz132_0,hcz132_1,hcz132_2,hfz132_0,hfz132_1,hfz132_2⟩:=zr BK218.out
         go_wp2
         go_ret2
         exact⟨by first|rfl|(simp [zk,zx] <;> rfl)|(simp [*,zk,zx] <;> rfl),bw⟩
        rw [if_neg c101] at H
        have c101b0:(a0 == 16)=false:=beq_eq_false_iff_ne.mpr c101
        have c101b1:(a0 != 16)=true:=bne_iff_ne.mpr c101
        by_cases c133:a0=17
        ·rw [if_pos c133] at H
         have c133b0:(a0 == 17)=true:=beq_iff_eq.mpr c133
         have c133b1:(a0 != 17)=false:=bne_eq_false_iff_eq.mpr c133
         clear c133
         by_cases c134:t219 > 0
         ·rw [if_pos c134] at H
          have c134b0:=decide_eq_true c134
          clear c134
          simp only [Option.some.injEq,Prod.mk.injEq] at H
          obtain ⟨rfl,rfl⟩:=H
          have hnb135:=NB217_218.out
          have hnc135:=NB218_217.out
          obtain ⟨hcz136_0,hcz136_1,hcz136_2,hfz136_0,hfz136_1,hfz136_2⟩:=zr BK217.out
          obtain ⟨hcz137_0,hcz137_1,hcz137_2,hfz137_0,hfz137_1,hfz137_2⟩:=zr BK218.out
          go_wp2
          go_ret2
          exact⟨by first|rfl|(simp [zk,zx] <;> rfl)|(simp [*,zk,zx] <;> rfl),bw⟩
         rw [if_neg c134] at H
         have c134b0:=decide_eq_false c134
         clear c134
         by_cases c138:a0=18
         ·rw [if_pos c138] at H
          have c138b0:(a0 == 18)=true:=beq_iff_eq.mpr c138
          have c138b1:(a0 != 18)=false:=bne_eq_false_iff_eq.mpr c138
          clear c138
          by_cases c139:t219 ≥ 0
          ·rw [if_pos c139] at H
           have c139b0:=decide_eq_true c139
           clear c139
           simp only [Option.some.injEq,Prod.mk.injEq] at H
           obtain ⟨rfl,rfl⟩:=H
           have hnb140:=NB217_218.out
           have hnc140:=NB218_217.out
           obtain ⟨hcz141_0,hcz141_1,hcz141_2,hfz141_0,hfz141_1,hfz141_2⟩:=zr BK217.out
           obtain ⟨hcz142_0,hcz142_1,hcz142_2,hfz142_0,hfz142_1,hfz142_2⟩:=zr BK218.out
           go_wp2
           go_ret2
           exact⟨by first|rfl|(simp [zk,zx] <;> rfl)|(simp [*,zk,zx] <;> rfl),bw⟩
          rw [if_neg c139] at H
          have c139b0:=decide_eq_false c139
          clear c139
          simp only [Option.some.injEq,Prod.mk.injEq] at H
          obtain ⟨rfl,rfl⟩:=H
          have hnb143:=NB217_218.out
          have hnc143:=NB218_217.out
          obtain ⟨hcz144_0,hcz144_1,hcz144_2,hfz144_0,hfz144_1,hfz144_2⟩:=zr BK217.out
          obtain ⟨hcz145_0,hcz145_1,hcz145_2,hfz145_0,hfz145_1,hfz145_2⟩:=zr BK218.out
          go_wp2
          go_ret2
          exact⟨by first|rfl|(simp [zk,zx] <;> rfl)|(simp [*,zk,zx] <;> rfl),bw⟩
         rw [if_neg c138] at H
         have c138b0:(a0 == 18)=false:=beq_eq_false_iff_ne.mpr c138
         have c138b1:(a0 != 18)=true:=bne_iff_ne.mpr c138
         simp only [Option.some.injEq,Prod.mk.injEq] at H
         obtain ⟨rfl,rfl⟩:=H
         have hnb146:=NB217_218.out
         have hnc146:=NB218_217.out
         obtain ⟨hcz147_0,hcz147_1,hcz147_2,hfz147_0,hfz147_1,hfz147_2⟩:=zr BK217.out
         obtain ⟨hcz148_0,hcz148_1,hcz148_2,hfz148_0,hfz148_1,hfz148_2⟩:=zr BK218.out
         go_wp2
         go_ret2
         exact⟨by first|rfl|(simp [zk,zx] <;> rfl)|(simp [*,zk,zx] <;> rfl),bw⟩
        rw [if_neg c133] at H
        have c133b0:(a0 == 17)=false:=beq_eq_false_iff_ne.mpr c133
        have c133b1:(a0 != 17)=true:=bne_iff_ne.mpr c133
        by_cases c149:a0=18
        ·rw [if_pos c149] at H
         have c149b0:(a0 == 18)=true:=beq_iff_eq.mpr c149
         have c149b1:(a0 != 18)=false:=bne_eq_false_iff_eq.mpr c149
         clear c149
         by_cases c150:t219 ≥ 0
         ·rw [if_pos c150] at H
          have c150b0:=decide_eq_true c150
          clear c150
          simp only [Option.some.injEq,Prod.mk.injEq] at H
          obtain ⟨rfl,rfl⟩:=H
          have hnb151:=NB217_218.out
          have hnc151:=NB218_217.out
          obtain ⟨hcz152_0,hcz152_1,hcz152_2,hfz152_0,hfz152_1,hfz152_2⟩:=zr BK217.out
          obtain ⟨hcz153_0,hcz153_1,hcz153_2,hfz153_0,hfz153_1,hfz153_2⟩:=zr BK218.out
          go_wp2
          go_ret2
          exact⟨by first|rfl|(simp [zk,zx] <;> rfl)|(simp [*,zk,zx] <;> rfl),bw⟩
         rw [if_neg c150] at H
         have c150b0:=decide_eq_false c150
         clear c150
         simp only [Option.some.injEq,Prod.mk.injEq] at H
         obtain ⟨rfl,rfl⟩:=H
         have hnb154:=NB217_218.out
         have hnc154:=NB218_217.out
         obtain ⟨hcz155_0,hcz155_1,hcz155_2,hfz155_0,hfz155_1,hfz155_2⟩:=zr BK217.out
         obtain ⟨hcz156_0,hcz156_1,hcz156_2,hfz156_0,hfz156_1,hfz156_2⟩:=zr BK218.out
         go_wp2
         go_ret2
         exact⟨by first|rfl|(simp [zk,zx] <;> rfl)|(simp [*,zk,zx] <;> rfl),bw⟩
        rw [if_neg c149] at H
        have c149b0:(a0 == 18)=false:=beq_eq_false_iff_ne.mpr c149
        have c149b1:(a0 != 18)=true:=bne_iff_ne.mpr c149
        simp only [Option.some.injEq,Prod.mk.injEq] at H
        obtain ⟨rfl,rfl⟩:=H
        have hnb157:=NB217_218.out
        have hnc157:=NB218_217.out
        obtain ⟨hcz158_0,hcz158_1,hcz158_2,hfz158_0,hfz158_1,hfz158_2⟩:=zr BK217.out
        obtain ⟨hcz159_0,hcz159_1,hcz159_2,hfz159_0,hfz159_1,hfz159_2⟩:=zr BK218.out
        go_wp2
        go_ret2
        exact⟨by first|rfl|(simp [zk,zx] <;> rfl)|(simp [*,zk,zx] <;> rfl),bw⟩
       rw [if_neg c28] at H
       have c28b0:(a0 == 13)=false:=beq_eq_false_iff_ne.mpr c28
       have c28b1:(a0 != 13)=true:=bne_iff_ne.mpr c28
       by_cases c160:a0=14
       ·rw [if_pos c160] at H
        have c160b0:(a0 == 14)=true:=beq_iff_eq.mpr c160
        have c160b1:(a0 != 14)=false:=bne_eq_false_iff_eq.mpr c160
        clear c160
        by_cases c161:t219=0
        ·rw [if_pos c161] at H
         have c161b0:(t219 == 0)=true:=beq_iff_eq.mpr c161
         have c161b1:(t219 != 0)=false:=bne_eq_false_iff_eq.mpr c161
         clear c161
         by_cases c162:a0=15
         ·rw [if_pos c162] at H
          have c162b0:(a0 == 15)=true:=beq_iff_eq.mpr c162
          have c162b1:(a0 != 15)=false:=bne_eq_false_iff_eq.mpr c162
          clear c162
          by_cases c163:t219<0
          ·rw [if_pos c163] at H
           have c163b0:=decide_eq_true c163
           clear c163
           simp only [Option.some.injEq,Prod.mk.injEq] at H
           obtain ⟨rfl,rfl⟩:=H
           have hnb164:=NB217_218.out
           have hnc164:=NB218_217.out
           obtain ⟨hcz165_0,hcz165_1,hcz165_2,hfz165_0,hfz165_1,hfz165_2⟩:=zr BK217.out
           obtain ⟨hcz166_0,hcz166_1,hcz166_2,hfz166_0,hfz166_1,hfz166_2⟩:=zr BK218.out
           go_wp2
           go_ret2
           exact⟨by first|rfl|(simp [zk,zx] <;> rfl)|(simp [*,zk,zx] <;> rfl),bw⟩
          rw [if_neg c163] at H
          have c163b0:=decide_eq_false c163
          clear c163
          by_cases c167:a0=16
          ·rw [if_pos c167] at H
           have c167b0:(a0 == 16)=true:=beq_iff_eq.mpr c167
           have c167b1:(a0 != 16)=false:=bne_eq_false_iff_eq.mpr c167
           clear c167
           by_cases c168:t219≤0
           ·rw [if_pos c168] at H
            have c168b0:=decide_eq_true c168
            clear c168
            simp only [Option.some.injEq,Prod.mk.injEq] at H
            obtain ⟨rfl,rfl⟩:=H
            have hnb169:=NB217_218.out
            have hnc169:=NB218_217.out
            obtain ⟨hcz170_0,hcz170_1,hcz170_2,hfz170_0,hfz170_1,hfz170_2⟩:=zr BK217.out
            obtain ⟨hcz171_0,hcz171_1,hcz171_2,hfz171_0,hfz171_1,hfz171_2⟩:=zr BK218.out
            go_wp2
            go_ret2
            exact⟨by first|rfl|(simp [zk,zx] <;> rfl)|(simp [*,zk,zx] <;> rfl),bw⟩
           rw [if_neg c168] at H
           have c168b0:=decide_eq_false c168
           clear c168
           by_cases c172:a0=17
           ·rw [if_pos c172] at H
            have c172b0:(a0 == 17)=true:=beq_iff_eq.mpr c172
            have c172b1:(a0 != 17)=false:=bne_eq_false_iff_eq.mpr c172
            clear c172
            by_cases c173:t219 > 0
            ·rw [if_pos c173] at H
             have c173b0:=decide_eq_true c173
             clear c173
             simp only [Option.some.injEq,Prod.mk.injEq] at H
             obtain ⟨rfl,rfl⟩:=H
             have hnb174:=NB217_218.out
             have hnc174:=NB218_217.out
             obtain ⟨hcz175_0,hcz175_1,hcz175_2,hfz175_0,hfz175_1,hfz175_2⟩:=zr BK217.out
             obtain ⟨hcz176_0,hcz176_1,hcz176_2,hfz176_0,hfz176_1,hfz176_2⟩:=zr BK218.out
             go_wp2
             go_ret2
             exact⟨by first|rfl|(simp [zk,zx] <;> rfl)|(simp [*,zk,zx] <;> rfl),bw⟩
            rw [if_neg c173] at H
            have c173b0:=decide_eq_false c173
            clear c173
            by_cases c177:a0=18
            ·rw [if_pos c177] at H
             have c177b0:(a0 == 18)=true:=beq_iff_eq.mpr c177
             have c177b1:(a0 != 18)=false:=bne_eq_false_iff_eq.mpr c177
             clear c177
             by_cases c178:t219 ≥ 0
             ·rw [if_pos c178] at H
              have c178b0:=decide_eq_true c178
              clear c178
              simp only [Option.some.injEq,Prod.mk.injEq] at H
              obtain ⟨rfl,rfl⟩:=H
              have hnb179:=NB217_218.out
              have hnc179:=NB218_217.out
              obtain ⟨hcz180_0,hcz180_1,hcz180_2,hfz180_0,hfz180_1,hfz180_2⟩:=zr BK217.out
              obtain ⟨hcz181_0,hcz181_1,hcz181_2,hfz181_0,hfz181_1,hfz181_2⟩:=zr BK218.out
              go_wp2
              go_ret2
              exact⟨by first|rfl|(simp [zk,zx] <;> rfl)|(simp [*,zk,zx] <;> rfl),bw⟩
             rw [if_neg c178] at H
             have c178b0:=decide_eq_false c178
             clear c178
             simp only [Option.some.injEq,Prod.mk.injEq] at H
             obtain ⟨rfl,rfl⟩:=H
             have hnb182:=NB217_218.out
             have hnc182:=NB218_217.out
             obtain ⟨hcz183_0,hcz183_1,hcz183_2,hfz183_0,hfz183_1,hfz183_2⟩:=zr BK217.out
             obtain ⟨hcz184_0,hcz184_1,hcz184_2,hfz184_0,hfz184_1,hfz184_2⟩:=zr BK218.out
             go_wp2
             go_ret2
             exact⟨by first|rfl|(simp [zk,zx] <;> rfl)|(simp [*,zk,zx] <;> rfl),bw⟩
            rw [if_neg c177] at H
            have c177b0:(a0 == 18)=false:=beq_eq_false_iff_ne.mpr c177
            have c177b1:(a0 != 18)=true:=bne_iff_ne.mpr c177
            simp only [Option.some.injEq,Prod.mk.injEq] at H
            obtain ⟨rfl,rfl⟩:=H
            have hnb185:=NB217_218.out
            have hnc185:=NB218_217.out
            obtain ⟨hcz186_0,hcz186_1,hcz186_2,hfz186_0,hfz186_1,hfz186_2⟩:=zr BK217.out
            obtain ⟨hcz187_0,hcz187_1,hcz187_2,hfz187_0,hfz187_1,hfz187_2⟩:=zr BK218.out
            go_wp2
            go_ret2
            exact⟨by first|rfl|(simp [zk,zx] <;> rfl)|(simp [*,zk,zx] <;> rfl),bw⟩
           rw [if_neg c172] at H
           have c172b0:(a0 == 17)=false:=beq_eq_false_iff_ne.mpr c172
           have c172b1:(a0 != 17)=true:=bne_iff_ne.mpr c172
           by_cases c188:a0=18
           ·rw [if_pos c188] at H
            have c188b0:(a0 == 18)=true:=beq_iff_eq.mpr c188
            have c188b1:(a0 != 18)=false:=bne_eq_false_iff_eq.mpr c188
            clear c188
            by_cases c189:t219 ≥ 0
            ·rw [if_pos c189] at H
             have c189b0:=decide_eq_true c189
             clear c189
             simp only [Option.some.injEq,Prod.mk.injEq] at H
             obtain ⟨rfl,rfl⟩:=H
             have hnb190:=NB217_218.out
             have hnc190:=NB218_217.out
             obtain ⟨hcz191_0,hcz191_1,hcz191_2,hfz191_0,hfz191_1,hfz191_2⟩:=zr BK217.out
             obtain ⟨hcz192_0,hcz192_1,hcz192_2,hfz192_0,hfz192_1,hfz192_2⟩:=zr BK218.out
             go_wp2
             go_ret2
             exact⟨by first|rfl|(simp [zk,zx] <;> rfl)|(simp [*,zk,zx] <;> rfl),bw⟩
            rw [if_neg c189] at H
            have c189b0:=decide_eq_false c189
            clear c189
            simp only [Option.some.injEq,Prod.mk.injEq] at H
            obtain ⟨rfl,rfl⟩:=H
            have hnb193:=NB217_218.out
            have hnc193:=NB218_217.out
            obtain ⟨hcz194_0,hcz194_1,hcz194_2,hfz194_0,hfz194_1,hfz194_2⟩:=zr BK217.out
            obtain ⟨hcz195_0,hcz195_1,hcz195_2,hfz195_0,hfz195_1,hfz195_2⟩:=zr BK218.out
            go_wp2
            go_ret2
            exact⟨by first|rfl|(simp [zk,zx] <;> rfl)|(simp [*,zk,zx] <;> rfl),bw⟩
           rw [if_neg c188] at H
           have c188b0:(a0 == 18)=false:=beq_eq_false_iff_ne.mpr c188
           have c188b1:(a0 != 18)=true:=bne_iff_ne.mpr c188
           simp only [Option.some.injEq,Prod.mk.injEq] at H
           obtain ⟨rfl,rfl⟩:=H
           have hnb196:=NB217_218.out
           have hnc196:=NB218_217.out
           obtain ⟨hcz197_0,hcz197_1,hcz197_2,hfz197_0,hfz197_1,hfz197_2⟩:=zr BK217.out
           obtain ⟨hcz198_0,hcz198_1,hcz198_2,hfz198_0,hfz198_1,hfz198_2⟩:=zr BK218.out
           go_wp2
           go_ret2
           exact⟨by first|rfl|(simp [zk,zx] <;> rfl)|(simp [*,zk,zx] <;> rfl),bw⟩
          rw [if_neg c167] at H
          have c167b0:(a0 == 16)=false:=beq_eq_false_iff_ne.mpr c167
          have c167b1:(a0 != 16)=true:=bne_iff_ne.mpr c167
          by_cases c199:a0=17
          ·rw [if_pos c199] at H
           have c199b0:(a0 == 17)=true:=beq_iff_eq.mpr c199
           have c199b1:(a0 != 17)=false:=bne_eq_false_iff_eq.mpr c199
           clear c199
           by_cases c200:t219 > 0
           ·rw [if_pos c200] at H
            have c200b0:=decide_eq_true c200
            clear c200
            simp only [Option.some.injEq,Prod.mk.injEq] at H
            obtain ⟨rfl,rfl⟩:=H
            have hnb201:=NB217_218.out
            have hnc201:=NB218_217.out
            obtain ⟨hcz202_0,hcz202_1,hcz202_2,hfz202_0,hfz202_1,hfz202_2⟩:=zr BK217.out
            obtain ⟨hcz203_0,hcz203_1,hcz203_2,hfz203_0,hfz203_1,hfz203_2⟩:=zr BK218.out
            go_wp2
            go_ret2
            exact⟨by first|rfl|(simp [zk,zx] <;> rfl)|(simp [*,zk,zx] <;> rfl),bw⟩
           rw [if_neg c200] at H
           have c200b0:=decide_eq_false c200
           clear c200
           by_cases c204:a0=18
           ·rw [if_pos c204] at H
            have c204b0:(a0 == 18)=true:=beq_iff_eq.mpr c204
            have c204b1:(a0 != 18)=false:=bne_eq_false_iff_eq.mpr c204
            clear c204
            by_cases c205:t219 ≥ 0
            ·rw [if_pos c205] at H
             have c205b0:=decide_eq_true c205
             clear c205
             simp only [Option.some.injEq,Prod.mk.injEq] at H
             obtain ⟨rfl,rfl⟩:=H
             have hnb206:=NB217_218.out
             have hnc206:=NB218_217.out
             obtain ⟨hcz207_0,hcz207_1,hcz207_2,hfz207_0,hfz207_1,hfz207_2⟩:=zr BK217.out
             obtain ⟨hcz208_0,hcz208_1,hcz208_2,hfz208_0,hfz208_1,hfz208_2⟩:=zr BK218.out
             go_wp2
             go_ret2
             exact⟨by first|rfl|(simp [zk,zx] <;> rfl)|(simp [*,zk,zx] <;> rfl),bw⟩
            rw [if_neg c205] at H
            have c205b0:=decide_eq_false c205
            clear c205
            simp only [Option.some.injEq,Prod.mk.injEq] at H
            obtain ⟨rfl,rfl⟩:=H
            have hnb209:=NB217_218.out
            have hnc209:=NB218_217.out
            obtain ⟨hcz210_0,hcz210_1,hcz210_2,hfz210_0,hfz210_1,hfz210_2⟩:=zr BK217.out
            obtain ⟨hcz211_0,hcz211_1,hcz211_2,hfz211_0,hfz211_1,hfz211_2⟩:=zr BK218.out
            go_wp2
            go_ret2
            exact⟨by first|rfl|(simp [zk,zx] <;> rfl)|(simp [*,zk,zx] <;> rfl),bw⟩
           rw [if_neg c204] at H
           have c204b0:(a0 == 18)=false:=beq_eq_false_iff_ne.mpr c204
           have c204b1:(a0 != 18)=true:=bne_iff_ne.mpr c204
           simp only [Option.some.injEq,Prod.mk.injEq] at H
           obtain ⟨rfl,rfl⟩:=H
           have hnb212:=NB217_218.out
           have hnc212:=NB218_217.out
           obtain ⟨hcz213_0,hcz213_1,hcz213_2,hfz213_0,hfz213_1,hfz213_2⟩:=zr BK217.out
           obtain ⟨hcz214_0,hcz214_1,hcz214_2,hfz214_0,hfz214_1,hfz214_2⟩:=zr BK218.out
           go_wp2
           go_ret2
           exact⟨by first|rfl|(simp [zk,zx] <;> rfl)|(simp [*,zk,zx] <;> rfl),bw⟩
          rw [if_neg c199] at H
          have c199b0:(a0 == 17)=false:=beq_eq_false_iff_ne.mpr c199
          have c199b1:(a0 != 17)=true:=bne_iff_ne.mpr c199
          by_cases c215:a0=18
          ·rw [if_pos c215] at H
           have c215b0:(a0 == 18)=true:=beq_iff_eq.mpr c215
           have c215b1:(a0 != 18)=false:=bne_eq_false_iff_eq.mpr c215
           clear c215
           by_cases c216:t219 ≥ 0
           ·rw [if_pos c216] at H
            have c216b0:=decide_eq_true c216
            clear c216
            simp only [Option.some.injEq,Prod.mk.injEq] at H
            obtain ⟨rfl,rfl⟩:=H
            have hnb217:=NB217_218.out
            have hnc217:=NB218_217.out
            obtain ⟨hcz218_0,hcz218_1,hcz218_2,hfz218_0,hfz218_1,hfz218_2⟩:=zr BK217.out
            obtain ⟨hcz219_0,hcz219_1,hcz219_2,hfz219_0,hfz219_1,hfz219_2⟩:=zr BK218.out
            go_wp2
            go_ret2
            exact⟨by first|rfl|(simp [zk,zx] <;> rfl)|(simp [*,zk,zx] <;> rfl),bw⟩
           rw [if_neg c216] at H
           have c216b0:=decide_eq_false c216
           clear c216
           simp only [Option.some.injEq,Prod.mk.injEq] at H
           obtain ⟨rfl,rfl⟩:=H
           have hnb220:=NB217_218.out
           have hnc220:=NB218_217.out
           obtain ⟨hcz221_0,hcz221_1,hcz221_2,hfz221_0,hfz221_1,hfz221_2⟩:=zr BK217.out
           obtain ⟨hcz222_0,hcz222_1,hcz222_2,hfz222_0,hfz222_1,hfz222_2⟩:=zr BK218.out
           go_wp2
           go_ret2
           exact⟨by first|rfl|(simp [zk,zx] <;> rfl)|(simp [*,zk,zx] <;> rfl),bw⟩
          rw [if_neg c215] at H
          have c215b0:(a0 == 18)=false:=beq_eq_false_iff_ne.mpr c215
          have c215b1:(a0 != 18)=true:=bne_iff_ne.mpr c215
          simp only [Option.some.injEq,Prod.mk.injEq] at H
          obtain ⟨rfl,rfl⟩:=H
          have hnb223:=NB217_218.out
          have hnc223:=NB218_217.out
          obtain ⟨hcz224_0,hcz224_1,hcz224_2,hfz224_0,hfz224_1,hfz224_2⟩:=zr BK217.out
          obtain ⟨hcz225_0,hcz225_1,hcz225_2,hfz225_0,hfz225_1,hfz225_2⟩:=zr BK218.out
          go_wp2
          go_ret2
          exact⟨by first|rfl|(simp [zk,zx] <;> rfl)|(simp [*,zk,zx] <;> rfl),bw⟩
         rw [if_neg c162] at H
         have c162b0:(a0 == 15)=false:=beq_eq_false_iff_ne.mpr c162
         have c162b1:(a0 != 15)=true:=bne_iff_ne.mpr c162
         by_cases c226:a0=16
         ·rw [if_pos c226] at H
          have c226b0:(a0 == 16)=true:=beq_iff_eq.mpr c226
          have c226b1:(a0 != 16)=false:=bne_eq_false_iff_eq.mpr c226
          clear c226
          by_cases c227:t219≤0
          ·rw [if_pos c227] at H
           have c227b0:=decide_eq_true c227
           clear c227
           simp only [Option.some.injEq,Prod.mk.injEq] at H
           obtain ⟨rfl,rfl⟩:=H
           have hnb228:=NB217_218.out
           have hnc228:=NB218_217.out
           obtain ⟨hcz229_0,hcz229_1,hcz229_2,hfz229_0,hfz229_1,hfz229_2⟩:=zr BK217.out
           obtain ⟨hcz230_0,hcz230_1,hcz230_2,hfz230_0,hfz230_1,hfz230_2⟩:=zr BK218.out
           go_wp2
           go_ret2
           exact⟨by first|rfl|(simp [zk,zx] <;> rfl)|(simp [*,zk,zx] <;> rfl),bw⟩
          rw [if_neg c227] at H
          have c227b0:=decide_eq_false c227
          clear c227
          by_cases c231:a0=17
          ·rw [if_pos c231] at H
           have c231b0:(a0 == 17)=true:=beq_iff_eq.mpr c231
           have c231b1:(a0 != 17)=false:=bne_eq_false_iff_eq.mpr c231
           clear c231
           by_cases c232:t219 > 0
           ·rw [if_pos c232] at H
            have c232b0:=decide_eq_true c232
            clear c232
            simp only [Option.some.injEq,Prod.mk.injEq] at H
            obtain ⟨rfl,rfl⟩:=H
            have hnb233:=NB217_218.out
            have hnc233:=NB218_217.out
            obtain ⟨hcz234_0,hcz234_1,hcz234_2,hfz234_0,hfz234_1,hfz234_2⟩:=zr BK217.out
            obtain ⟨hcz235_0,hcz235_1,hcz235_2,hfz235_0,hfz235_1,hfz235_2⟩:=zr BK218.out
            go_wp2
            go_ret2
            exact⟨by first|rfl|(simp [zk,zx] <;> rfl)|(simp [*,zk,zx] <;> rfl),bw⟩
           rw [if_neg c232] at H
           have c232b0:=decide_eq_false c232
           clear c232
           by_cases c236:a0=18
           ·rw [if_pos c236] at H
            have c236b0:(a0 == 18)=true:=beq_iff_eq.mpr c236
            have c236b1:(a0 != 18)=false:=bne_eq_false_iff_eq.mpr c236
            clear c236
            by_cases c237:t219 ≥ 0
            ·rw [if_pos c237] at H
             have c237b0:=decide_eq_true c237
             clear c237
             simp only [Option.some.injEq,Prod.mk.injEq] at H
             obtain ⟨rfl,rfl⟩:=H
             have hnb238:=NB217_218.out
             have hnc238:=NB218_217.out
             obtain ⟨hcz239_0,hcz239_1,hcz239_2,hfz239_0,hfz239_1,hfz239_2⟩:=zr BK217.out
             obtain ⟨hcz240_0,hcz240_1,hcz240_2,hfz240_0,hfz240_1,hfz240_2⟩:=zr BK218.out
             go_wp2
             go_ret2
             exact⟨by first|rfl|(simp [zk,zx] <;> rfl)|(simp [*,zk,zx] <;> rfl),bw⟩
            rw [if_neg c237] at H
            have c237b0:=decide_eq_false c237
            clear c237
            simp only [Option.some.injEq,Prod.mk.injEq] at H
            obtain ⟨rfl,rfl⟩:=H
            have hnb241:=NB217_218.out
            have hnc241:=NB218_217.out
            obtain ⟨hcz242_0,hcz242_1,hcz242_2,hfz242_0,hfz242_1,hfz242_2⟩:=zr BK217.out
            obtain ⟨hcz243_0,hcz243_1,hcz243_2,hfz243_0,hfz243_1,hfz243_2⟩:=zr BK218.out
            go_wp2
            go_ret2
            exact⟨by first|rfl|(simp [zk,zx] <;> rfl)|(simp [*,zk,zx] <;> rfl),bw⟩
           rw [if_neg c236] at H
           have c236b0:(a0 == 18)=false:=beq_eq_false_iff_ne.mpr c236
           have c236b1:(a0 != 18)=true:=bne_iff_ne.mpr c236
           simp only [Option.some.injEq,Prod.mk.injEq] at H
           obtain ⟨rfl,rfl⟩:=H
           have hnb244:=NB217_218.out
           have hnc244:=NB218_217.out
           obtain ⟨hcz245_0,hcz245_1,hcz245_2,hfz245_0,hfz245_1,hfz245_2⟩:=zr BK217.out
           obtain ⟨hcz246_0,hcz246_1,hcz246_2,hfz246_0,hfz246_1,hfz246_2⟩:=zr BK218.out
           go_wp2
           go_ret2
           exact⟨by first|rfl|(simp [zk,zx] <;> rfl)|(simp [*,zk,zx] <;> rfl),bw⟩
          rw [if_neg c231] at H
          have c231b0:(a0 == 17)=false:=beq_eq_false_iff_ne.mpr c231
          have c231b1:(a0 != 17)=true:=bne_iff_ne.mpr c231
          by_cases c247:a0=18
          ·rw [if_pos c247] at H
           have c247b0:(a0 == 18)=true:=beq_iff_eq.mpr c247
           have c247b1:(a0 != 18)=false:=bne_eq_false_iff_eq.mpr c247
           clear c247
           by_cases c248:t219 ≥ 0
           ·rw [if_pos c248] at H
            have c248b0:=decide_eq_true c248
            clear c248
            simp only [Option.some.injEq,Prod.mk.injEq] at H
            obtain ⟨rfl,rfl⟩:=H
            have hnb249:=NB217_218.out
            have hnc249:=NB218_217.out
            obtain ⟨hcz250_0,hcz250_1,hcz250_2,hfz250_0,hfz250_1,hfz250_2⟩:=zr BK217.out
            obtain ⟨hcz251_0,hcz251_1,hcz251_2,hfz251_0,hfz251_1,hfz251_2⟩:=zr BK218.out
            go_wp2
            go_ret2
            exact⟨by first|rfl|(simp [zk,zx] <;> rfl)|(simp [*,zk,zx] <;> rfl),bw⟩
           rw [if_neg c248] at H
           have c248b0:=decide_eq_false c248
           clear c248
           simp only [Option.some.injEq,Prod.mk.injEq] at H
           obtain ⟨rfl,rfl⟩:=H
           have hnb252:=NB217_218.out
           have hnc252:=NB218_217.out
           obtain ⟨hcz253_0,hcz253_1,hcz253_2,hfz253_0,hfz253_1,hfz253_2⟩:=zr BK217.out
           obtain ⟨hcz254_0,hcz254_1,hcz254_2,hfz254_0,hfz254_1,hfz254_2⟩:=zr BK218.out
           go_wp2
           go_ret2
           exact⟨by first|rfl|(simp [zk,zx] <;> rfl)|(simp [*,zk,zx] <;> rfl),bw⟩
          rw [if_neg c247] at H
          have c247b0:(a0 == 18)=false:=beq_eq_false_iff_ne.mpr c247
          have c247b1:(a0 != 18)=true:=bne_iff_ne.mpr c247
          simp only [Option.some.injEq,Prod.mk.injEq] at H
          obtain ⟨rfl,rfl⟩:=H
          have hnb255:=NB217_218.out
          have hnc255:=NB218_217.out
          obtain ⟨hcz256_0,hcz256_1,hcz256_2,hfz256_0,hfz256_1,hfz256_2⟩:=zr BK217.out
          obtain ⟨hcz257_0,hcz257_1,hcz257_2,hfz257_0,hfz257_1,hfz257_2⟩:=zr BK218.out
          go_wp2
          go_ret2
          exact⟨by first|rfl|(simp [zk,zx] <;> rfl)|(simp [*,zk,zx] <;> rfl),bw⟩
         rw [if_neg c226] at H
         have c226b0:(a0 == 16)=false:=beq_eq_false_iff_ne.mpr c226
         have c226b1:(a0 != 16)=true:=bne_iff_ne.mpr c226
         by_cases c258:a0=17
         ·rw [if_pos c258] at H
          have c258b0:(a0 == 17)=true:=beq_iff_eq.mpr c258
          have c258b1:(a0 != 17)=false:=bne_eq_false_iff_eq.mpr c258
          clear c258
          by_cases c259:t219 > 0
          ·rw [if_pos c259] at H
           have c259b0:=decide_eq_true c259
           clear c259
           simp only [Option.some.injEq,Prod.mk.injEq] at H
           obtain ⟨rfl,rfl⟩:=H
           have hnb260:=NB217_218.out
           have hnc260:=NB218_217.out
           obtain ⟨hcz261_0,hcz261_1,hcz261_2,hfz261_0,hfz261_1,hfz261_2⟩:=zr BK217.out
           obtain ⟨hcz262_0,hcz262_1,hcz262_2,hfz262_0,hfz262_1,hfz262_2⟩:=zr BK218.out
           go_wp2
           go_ret2
           exact⟨by first|rfl|(simp [zk,zx] <;> rfl)|(simp [*,zk,zx] <;> rfl),bw⟩
          rw [if_neg c259] at H
          have c259b0:=decide_eq_false c259
          clear c259
          by_cases c263:a0=18
          ·rw [if_pos c263] at H
           have c263b0:(a0 == 18)=true:=beq_iff_eq.mpr c263
           have c263b1:(a0 != 18)=false:=bne_eq_false_iff_eq.mpr c263
           clear c263
           by_cases c264:t219 ≥ 0
           ·rw [if_pos c264] at H
            have c264b0:=decide_eq_true c264
            clear c264
            simp only [Option.some.injEq,Prod.mk.injEq] at H
            obtain ⟨rfl,rfl⟩:=H
            have hnb265:=NB217_218.out
            have hnc265:=NB218_217.out
            obtain ⟨hcz266_0,hcz266_1,hcz266_2,hfz266_0,hfz266_1,hfz266_2⟩:=zr BK217.out
            obtain ⟨hcz267_0,hcz267_1,hcz267_2,hfz267_0,hfz267_1,hfz267_2⟩:=zr BK218.out
            go_wp2
            go_ret2
            exact⟨by first|rfl|(simp [zk,zx] <;> rfl)|(simp [*,zk,zx] <;> rfl),bw⟩
           rw [if_neg c264] at H
           have c264b0:=decide_eq_false c264
           clear c264
           simp only [Option.some.injEq,Prod.mk.injEq] at H
           obtain ⟨rfl,rfl⟩:=H
           have hnb268:=NB217_218.out
           have hnc268:=NB218_217.out
           obtain ⟨hcz269_0,hcz269_1,hcz269_2,hfz269_0,hfz269_1,hfz269_2⟩:=zr BK217.out
           obtain ⟨hcz270_0,hcz270_1,hcz270_2,hfz270_0,hfz270_1,hfz270_2⟩:=zr BK218.out
           go_wp2
           go_ret2
           exact⟨by first|rfl|(simp [zk,zx] <;> rfl)|(simp [*,zk,zx] <;> rfl),bw⟩
          rw [if_neg c263] at H
          have c263b0:(a0 == 18)=false:=beq_eq_false_iff_ne.mpr c263
          have c263b1:(a0 != 18)=true:=bne_iff_ne.mpr c263
          simp only [Option.some.injEq,Prod.mk.injEq] at H
          obtain ⟨rfl,rfl⟩:=H
          have hnb271:=NB217_218.out
          have hnc271:=NB218_217.out
          obtain ⟨hcz272_0,hcz272_1,hcz272_2,hfz272_0,hfz272_1,hfz272_2⟩:=zr BK217.out
          obtain ⟨hcz273_0,hcz273_1,hcz273_2,hfz273_0,hfz273_1,hfz273_2⟩:=zr BK218.out
          go_wp2
          go_ret2
          exact⟨by first|rfl|(simp [zk,zx] <;> rfl)|(simp [*,zk,zx] <;> rfl),bw⟩
         rw [if_neg c258] at H
         have c258b0:(a0 == 17)=false:=beq_eq_false_iff_ne.mpr c258
         have c258b1:(a0 != 17)=true:=bne_iff_ne.mpr c258
         by_cases c274:a0=18
         ·rw [if_pos c274] at H
          have c274b0:(a0 == 18)=true:=beq_iff_eq.mpr c274
          have c274b1:(a0 != 18)=false:=bne_eq_false_iff_eq.mpr c274
          clear c274
          by_cases c275:t219 ≥ 0
          ·rw [if_pos c275] at H
           have c275b0:=decide_eq_true c275
           clear c275
           simp only [Option.some.injEq,Prod.mk.injEq] at H
           obtain ⟨rfl,rfl⟩:=H
           have hnb276:=NB217_218.out
           have hnc276:=NB218_217.out
           obtain ⟨hcz277_0,hcz277_1,hcz277_2,hfz277_0,hfz277_1,hfz277_2⟩:=zr BK217.out
           obtain ⟨hcz278_0,hcz278_1,hcz278_2,hfz278_0,hfz278_1,hfz278_2⟩:=zr BK218.out
           go_wp2
           go_ret2
           exact⟨by first|rfl|(simp [zk,zx] <;> rfl)|(simp [*,zk,zx] <;> rfl),bw⟩
          rw [if_neg c275] at H
          have c275b0:=decide_eq_false c275
          clear c275
          simp only [Option.some.injEq,Prod.mk.injEq] at H
          obtain ⟨rfl,rfl⟩:=H
          have hnb279:=NB217_218.out
          have hnc279:=NB218_217.out
          obtain ⟨hcz280_0,hcz280_1,hcz280_2,hfz280_0,hfz280_1,hfz280_2⟩:=zr BK217.out
          obtain ⟨hcz281_0,hcz281_1,hcz281_2,hfz281_0,hfz281_1,hfz281_2⟩:=zr BK218.out
          go_wp2
          go_ret2
          exact⟨by first|rfl|(simp [zk,zx] <;> rfl)|(simp [*,zk,zx] <;> rfl),bw⟩
         rw [if_neg c274] at H
         have c274b0:(a0 == 18)=false:=beq_eq_false_iff_ne.mpr c274
         have c274b1:(a0 != 18)=true:=bne_iff_ne.mpr c274
         simp only [Option.some.injEq,Prod.mk.injEq] at H
         obtain ⟨rfl,rfl⟩:=H
         have hnb282:=NB217_218.out
         have hnc282:=NB218_217.out
         obtain ⟨hcz283_0,hcz283_1,hcz283_2,hfz283_0,hfz283_1,hfz283_2⟩:=zr BK217.out
         obtain ⟨hcz284_0,hcz284_1,hcz284_2,hfz284_0,hfz284_1,hfz284_2⟩:=zr BK218.out
         go_wp2
         go_ret2
         exact⟨by first|rfl|(simp [zk,zx] <;> rfl)|(simp [*,zk,zx] <;> rfl),bw⟩
        rw [if_neg c161] at H
        have c161b0:(t219 == 0)=false:=beq_eq_false_iff_ne.mpr c161
        have c161b1:(t219 != 0)=true:=bne_iff_ne.mpr c161
        simp only [Option.some.injEq,Prod.mk.injEq] at H
        obtain ⟨rfl,rfl⟩:=H
        have hnb285:=NB217_218.out
        have hnc285:=NB218_217.out
        obtain ⟨hcz286_0,hcz286_1,hcz286_2,hfz286_0,hfz286_1,hfz286_2⟩:=zr BK217.out
        obtain ⟨hcz287_0,hcz287_1,hcz287_2,hfz287_0,hfz287_1,hfz287_2⟩:=zr BK218.out
        go_wp2
        go_ret2
        exact⟨by first|rfl|(simp [zk,zx] <;> rfl)|(simp [*,zk,zx] <;> rfl),bw⟩
       rw [if_neg c160] at H
       have c160b0:(a0 == 14)=false:=beq_eq_false_iff_ne.mpr c160
       have c160b1:(a0 != 14)=true:=bne_iff_ne.mpr c160
       by_cases c288:a0=15
       ·rw [if_pos c288] at H
        have c288b0:(a0 == 15)=true:=beq_iff_eq.mpr c288
        have c288b1:(a0 != 15)=false:=bne_eq_false_iff_eq.mpr c288
        clear c288
        by_cases c289:t219<0
        ·rw [if_pos c289] at H
         have c289b0:=decide_eq_true c289
         clear c289
         simp only [Option.some.injEq,Prod.mk.injEq] at H
         obtain ⟨rfl,rfl⟩:=H
         have hnb290:=NB217_218.out
         have hnc290:=NB218_217.out
         obtain ⟨hcz291_0,hcz291_1,hcz291_2,hfz291_0,hfz291_1,hfz291_2⟩:=zr BK217.out
         obtain ⟨hcz292_0,hcz292_1,hcz292_2,hfz292_0,hfz292_1,hfz292_2⟩:=zr BK218.out
         go_wp2
         go_ret2
         exact⟨by first|rfl|(simp [zk,zx] <;> rfl)|(simp [*,zk,zx] <;> rfl),bw⟩
        rw [if_neg c289] at H
        have c289b0:=decide_eq_false c289
        clear c289
        by_cases c293:a0=16
        ·rw [if_pos c293] at H
         have c293b0:(a0 == 16)=true:=beq_iff_eq.mpr c293
         have c293b1:(a0 != 16)=false:=bne_eq_false_iff_eq.mpr c293
         clear c293
         by_cases c294:t219≤0
         ·rw [if_pos c294] at H
          have c294b0:=decide_eq_true c294
          clear c294
          simp only [Option.some.injEq,Prod.mk.injEq] at H
          obtain ⟨rfl,rfl⟩:=H
          have hnb295:=NB217_218.out
          have hnc295:=NB218_217.out
          obtain ⟨hcz296_0,hcz296_1,hcz296_2,hfz296_0,hfz296_1,hfz296_2⟩:=zr BK217.out
          obtain ⟨hcz297_0,hcz297_1,hcz297_2,hfz297_0,hfz297_1,hfz297_2⟩:=zr BK218.out
          go_wp2
          go_ret2
          exact⟨by first|rfl|(simp [zk,zx] <;> rfl)|(simp [*,zk,zx] <;> rfl),bw⟩
         rw [if_neg c294] at H
         have c294b0:=decide_eq_false c294
         clear c294
         by_cases c298:a0=17
         ·rw [if_pos c298] at H
          have c298b0:(a0 == 17)=true:=beq_iff_eq.mpr c298
          have c298b1:(a0 != 17)=false:=bne_eq_false_iff_eq.mpr c298
          clear c298
          by_cases c299:t219 > 0
          ·rw [if_pos c299] at H
           have c299b0:=decide_eq_true c299
           clear c299
           simp only [Option.some.injEq,Prod.mk.injEq] at H
           obtain ⟨rfl,rfl⟩:=H
           have hnb300:=NB217_218.out
           have hnc300:=NB218_217.out
           obtain ⟨hcz301_0,hcz301_1,hcz301_2,hfz301_0,hfz301_1,hfz301_2⟩:=zr BK217.out
           obtain ⟨hcz302_0,hcz302_1,hcz302_2,hfz302_0,hfz302_1,hfz302_2⟩:=zr BK218.out
           go_wp2
           go_ret2
           exact⟨by first|rfl|(simp [zk,zx] <;> rfl)|(simp [*,zk,zx] <;> rfl),bw⟩
          rw [if_neg c299] at H
          have c299b0:=decide_eq_false c299
          clear c299
          by_cases c303:a0=18
          ·rw [if_pos c303] at H
           have c303b0:(a0 == 18)=true:=beq_iff_eq.mpr c303
           have c303b1:(a0 != 18)=false:=bne_eq_false_iff_eq.mpr c303
           clear c303
           by_cases c304:t219 ≥ 0
           ·rw [if_pos c304] at H
            have c304b0:=decide_eq_true c304
            clear c304
            simp only [Option.some.injEq,Prod.mk.injEq] at H
            obtain ⟨rfl,rfl⟩:=H
            have hnb305:=NB217_218.out
            have hnc305:=NB218_217.out
            obtain ⟨hcz306_0,hcz306_1,hcz306_2,hfz306_0,hfz306_1,hfz306_2⟩:=zr BK217.out
            obtain ⟨hcz307_0,hcz307_1,hcz307_2,hfz307_0,hfz307_1,hfz307_2⟩:=zr BK218.out
            go_wp2
            go_ret2
            exact⟨by first|rfl|(simp [zk,zx] <;> rfl)|(simp [*,zk,zx] <;> rfl),bw⟩
           rw [if_neg c304] at H
           have c304b0:=decide_eq_false c304
           clear c304
           simp only [Option.some.injEq,Prod.mk.injEq] at H
           obtain ⟨rfl,rfl⟩:=H
           have hnb308:=NB217_218.out
           have hnc308:=NB218_217.out
           obtain ⟨hcz309_0,hcz309_1,hcz309_2,hfz309_0,hfz309_1,hfz309_2⟩:=zr BK217.out
           obtain ⟨hcz310_0,hcz310_1,hcz310_2,hfz310_0,hfz310_1,hfz310_2⟩:=zr BK218.out
           go_wp2
           go_ret2
           exact⟨by first|rfl|(simp [zk,zx] <;> rfl)|(simp [*,zk,zx] <;> rfl),bw⟩
          rw [if_neg c303] at H
          have c303b0:(a0 == 18)=false:=beq_eq_false_iff_ne.mpr c303
          have c303b1:(a0 != 18)=true:=bne_iff_ne.mpr c303
          simp only [Option.some.injEq,Prod.mk.injEq] at H
          obtain ⟨rfl,rfl⟩:=H
          have hnb311:=NB217_218.out
          have hnc311:=NB218_217.out
          obtain ⟨hcz312_0,hcz312_1,hcz312_2,hfz312_0,hfz312_1,hfz312_2⟩:=zr BK217.out
          obtain ⟨hcz313_0,hcz313_1,hcz313_2,hfz313_0,hfz313_1,hfz313_2⟩:=zr BK218.out
          go_wp2
          go_ret2
          exact⟨by first|rfl|(simp [zk,zx] <;> rfl)|(simp [*,zk,zx] <;> rfl),bw⟩
         rw [if_neg c298] at H
         have c298b0:(a0 == 17)=false:=beq_eq_false_iff_ne.mpr c298
         have c298b1:(a0 != 17)=true:=bne_iff_ne.mpr c298
         by_cases c314:a0=18
         ·rw [if_pos c314] at H
          have c314b0:(a0 == 18)=true:=beq_iff_eq.mpr c314
          have c314b1:(a0 != 18)=false:=bne_eq_false_iff_eq.mpr c314
          clear c314
          by_cases c315:t219 ≥ 0
          ·rw [if_pos c315] at H
           have c315b0:=decide_eq_true c315
           clear c315
           simp only [Option.some.injEq,Prod.mk.injEq] at H
           obtain ⟨rfl,rfl⟩:=H
           have hnb316:=NB217_218.out
           have hnc316:=NB218_217.out
           obtain ⟨hcz317_0,hcz317_1,hcz317_2,hfz317_0,hfz317_1,hfz317_2⟩:=zr BK217.out
           obtain ⟨hcz318_0,hcz318_1,hcz318_2,hfz318_0,hfz318_1,hfz318_2⟩:=zr BK218.out
           go_wp2
           go_ret2
           exact⟨by first|rfl|(simp [zk,zx] <;> rfl)|(simp [*,zk,zx] <;> rfl),bw⟩
          rw [if_neg c315] at H
          have c315b0:=decide_eq_false c315
          clear c315
          simp only [Option.some.injEq,Prod.mk.injEq] at H
          obtain ⟨rfl,rfl⟩:=H
          have hnb319:=NB217_218.out
          have hnc319:=NB218_217.out
          obtain ⟨hcz320_0,hcz320_1,hcz320_2,hfz320_0,hfz320_1,hfz320_2⟩:=zr BK217.out
          obtain ⟨hcz321_0,hcz321_1,hcz321_2,hfz321_0,hfz321_1,hfz321_2⟩:=zr BK218.out
          go_wp2
          go_ret2
          exact⟨by first|rfl|(simp [zk,zx] <;> rfl)|(simp [*,zk,zx] <;> rfl),bw⟩
         rw [if_neg c314] at H
         have c314b0:(a0 == 18)=false:=beq_eq_false_iff_ne.mpr c314
         have c314b1:(a0 != 18)=true:=bne_iff_ne.mpr c314
         simp only [Option.some.injEq,Prod.mk.injEq] at H
         obtain ⟨rfl,rfl⟩:=H
         have hnb322:=NB217_218.out
         have hnc322:=NB218_217.out
         obtain ⟨hcz323_0,hcz323_1,hcz323_2,hfz323_0,hfz323_1,hfz323_2⟩:=zr BK217.out
         obtain ⟨hcz324_0,hcz324_1,hcz324_2,hfz324_0,hfz324_1,hfz324_2⟩:=zr BK218.out
         go_wp2
         go_ret2
         exact⟨by first|rfl|(simp [zk,zx] <;> rfl)|(simp [*,zk,zx] <;> rfl),bw⟩
        rw [if_neg c293] at H
        have c293b0:(a0 == 16)=false:=beq_eq_false_iff_ne.mpr c293
        have c293b1:(a0 != 16)=true:=bne_iff_ne.mpr c293
        by_cases c325:a0=17
        ·rw [if_pos c325] at H
         have c325b0:(a0 == 17)=true:=beq_iff_eq.mpr c325
         have c325b1:(a0 != 17)=false:=bne_eq_false_iff_eq.mpr c325
         clear c325
         by_cases c326:t219 > 0
         ·rw [if_pos c326] at H
          have c326b0:=decide_eq_true c326
          clear c326
          simp only [Option.some.injEq,Prod.mk.injEq] at H
          obtain ⟨rfl,rfl⟩:=H
          have hnb327:=NB217_218.out
          have hnc327:=NB218_217.out
          obtain ⟨hcz328_0,hcz328_1,hcz328_2,hfz328_0,hfz328_1,hfz328_2⟩:=zr BK217.out
          obtain ⟨hcz329_0,hcz329_1,hcz329_2,hfz329_0,hfz329_1,hfz329_2⟩:=zr BK218.out
          go_wp2
          go_ret2
          exact⟨by first|rfl|(simp [zk,zx] <;> rfl)|(simp [*,zk,zx] <;> rfl),bw⟩
         rw [if_neg c326] at H
         have c326b0:=decide_eq_false c326
         clear c326
         by_cases c330:a0=18
         ·rw [if_pos c330] at H
          have c330b0:(a0 == 18)=true:=beq_iff_eq.mpr c330
          have c330b1:(a0 != 18)=false:=bne_eq_false_iff_eq.mpr c330
          clear c330
          by_cases c331:t219 ≥ 0
          ·rw [if_pos c331] at H
           have c331b0:=decide_eq_true c331
           clear c331
           simp only [Option.some.injEq,Prod.mk.injEq] at H
           obtain ⟨rfl,rfl⟩:=H
           have hnb332:=NB217_218.out
           have hnc332:=NB218_217.out
           obtain ⟨hcz333_0,hcz333_1,hcz333_2,hfz333_0,hfz333_1,hfz333_2⟩:=zr BK217.out
           obtain ⟨hcz334_0,hcz334_1,hcz334_2,hfz334_0,hfz334_1,hfz334_2⟩:=zr BK218.out
           go_wp2
           go_ret2
           exact⟨by first|rfl|(simp [zk,zx] <;> rfl)|(simp [*,zk,zx] <;> rfl),bw⟩
          rw [if_neg c331] at H
          have c331b0:=decide_eq_false c331
          clear c331
          simp only [Option.some.injEq,Prod.mk.injEq] at H
          obtain ⟨rfl,rfl⟩:=H
          have hnb335:=NB217_218.out
          have hnc335:=NB218_217.out
          obtain ⟨hcz336_0,hcz336_1,hcz336_2,hfz336_0,hfz336_1,hfz336_2⟩:=zr BK217.out
          obtain ⟨hcz337_0,hcz337_1,hcz337_2,hfz337_0,hfz337_1,hfz337_2⟩:=zr BK218.out
          go_wp2
          go_ret2
          exact⟨by first|rfl|(simp [zk,zx] <;> rfl)|(simp [*,zk,zx] <;> rfl),bw⟩
         rw [if_neg c330] at H
         have c330b0:(a0 == 18)=false:=beq_eq_false_iff_ne.mpr c330
         have c330b1:(a0 != 18)=true:=bne_iff_ne.mpr c330
         simp only [Option.some.injEq,Prod.mk.injEq] at H
         obtain ⟨rfl,rfl⟩:=H
         have hnb338:=NB217_218.out
         have hnc338:=NB218_217.out
         obtain ⟨hcz339_0,hcz339_1,hcz339_2,hfz339_0,hfz339_1,hfz339_2⟩:=zr BK217.out
         obtain ⟨hcz340_0,hcz340_1,hcz340_2,hfz340_0,hfz340_1,hfz340_2⟩:=zr BK218.out
         go_wp2
         go_ret2
         exact⟨by first|rfl|(simp [zk,zx] <;> rfl)|(simp [*,zk,zx] <;> rfl),bw⟩
        rw [if_neg c325] at H
        have c325b0:(a0 == 17)=false:=beq_eq_false_iff_ne.mpr c325
        have c325b1:(a0 != 17)=true:=bne_iff_ne.mpr c325
        by_cases c341:a0=18
        ·rw [if_pos c341] at H
         have c341b0:(a0 == 18)=true:=beq_iff_eq.mpr c341
         have c341b1:(a0 != 18)=false:=bne_eq_false_iff_eq.mpr c341
         clear c341
         by_cases c342:t219 ≥ 0
         ·rw [if_pos c342] at H
          have c342b0:=decide_eq_true c342
          clear c342
          simp only [Option.some.injEq,Prod.mk.injEq] at H
          obtain ⟨rfl,rfl⟩:=H
          have hnb343:=NB217_218.out
          have hnc343:=NB218_217.out
          obtain ⟨hcz344_0,hcz344_1,hcz344_2,hfz344_0,hfz344_1,hfz344_2⟩:=zr BK217.out
          obtain ⟨hcz345_0,hcz345_1,hcz345_2,hfz345_0,hfz345_1,hfz345_2⟩:=zr BK218.out
          go_wp2
          go_ret2
          exact⟨by first|rfl|(simp [zk,zx] <;> rfl)|(simp [*,zk,zx] <;> rfl),bw⟩
         rw [if_neg c342] at H
         have c342b0:=decide_eq_false c342
         clear c342
         simp only [Option.some.injEq,Prod.mk.injEq] at H
         obtain ⟨rfl,rfl⟩:=H
         have hnb346:=NB217_218.out
         have hnc346:=NB218_217.out
         obtain ⟨hcz347_0,hcz347_1,hcz347_2,hfz347_0,hfz347_1,hfz347_2⟩:=zr BK217.out
         obtain ⟨hcz348_0,hcz348_1,hcz348_2,hfz348_0,hfz348_1,hfz348_2⟩:=zr BK218.out
         go_wp2
         go_ret2
         exact⟨by first|rfl|(simp [zk,zx] <;> rfl)|(simp [*,zk,zx] <;> rfl),bw⟩
        rw [if_neg c341] at H
        have c341b0:(a0 == 18)=false:=beq_eq_false_iff_ne.mpr c341
        have c341b1:(a0 != 18)=true:=bne_iff_ne.mpr c341
        simp only [Option.some.injEq,Prod.mk.injEq] at H
        obtain ⟨rfl,rfl⟩:=H
        have hnb349:=NB217_218.out
        have hnc349:=NB218_217.out
        obtain ⟨hcz350_0,hcz350_1,hcz350_2,hfz350_0,hfz350_1,hfz350_2⟩:=zr BK217.out
        obtain ⟨hcz351_0,hcz351_1,hcz351_2,hfz351_0,hfz351_1,hfz351_2⟩:=zr BK218.out
        go_wp2
        go_ret2
        exact⟨by first|rfl|(simp [zk,zx] <;> rfl)|(simp [*,zk,zx] <;> rfl),bw⟩
       rw [if_neg c288] at H
       have c288b0:(a0 == 15)=false:=beq_eq_false_iff_ne.mpr c288
       have c288b1:(a0 != 15)=true:=bne_iff_ne.mpr c288
       by_cases c352:a0=16
       ·rw [if_pos c352] at H
        have c352b0:(a0 == 16)=true:=beq_iff_eq.mpr c352
        have c352b1:(a0 != 16)=false:=bne_eq_false_iff_eq.mpr c352
        clear c352
        by_cases c353:t219≤0
        ·rw [if_pos c353] at H
         have c353b0:=decide_eq_true c353
         clear c353
         simp only [Option.some.injEq,Prod.mk.injEq] at H
         obtain ⟨rfl,rfl⟩:=H
         have hnb354:=NB217_218.out
         have hnc354:=NB218_217.out
         obtain ⟨hcz355_0,hcz355_1,hcz355_2,hfz355_0,hfz355_1,hfz355_2⟩:=zr BK217.out
         obtain ⟨hcz356_0,hcz356_1,hcz356_2,hfz356_0,hfz356_1,hfz356_2⟩:=zr BK218.out
         go_wp2
         go_ret2
         exact⟨by first|rfl|(simp [zk,zx] <;> rfl)|(simp [*,zk,zx] <;> rfl),bw⟩
        rw [if_neg c353] at H
        have c353b0:=decide_eq_false c353
        clear c353
        by_cases c357:a0=17
        ·rw [if_pos c357] at H
         have c357b0:(a0 == 17)=true:=beq_iff_eq.mpr c357
         have c357b1:(a0 != 17)=false:=bne_eq_false_iff_eq.mpr c357
         clear c357
         by_cases c358:t219 > 0
         ·rw [if_pos c358] at H
          have c358b0:=decide_eq_true c358
          clear c358
          simp only [Option.some.injEq,Prod.mk.injEq] at H
          obtain ⟨rfl,rfl⟩:=H
          have hnb359:=NB217_218.out
          have hnc359:=NB218_217.out
          obtain ⟨hcz360_0,hcz360_1,hcz360_2,hfz360_0,hfz360_1,hfz360_2⟩:=zr BK217.out
          obtain ⟨hcz361_0,hcz361_1,hcz361_2,hfz361_0,hfz361_1,hfz361_2⟩:=zr BK218.out
          go_wp2
          go_ret2
          exact⟨by first|rfl|(simp [zk,zx] <;> rfl)|(simp [*,zk,zx] <;> rfl),bw⟩
         rw [if_neg c358] at H
         have c358b0:=decide_eq_false c358
         clear c358
         by_cases c362:a0=18
         ·rw [if_pos c362] at H
          have c362b0:(a0 == 18)=true:=beq_iff_eq.mpr c362
          have c362b1:(a0 != 18)=false:=bne_eq_false_iff_eq.mpr c362
          clear c362
          by_cases c363:t219 ≥ 0
          ·rw [if_pos c363] at H
           have c363b0:=decide_eq_true c363
           clear c363
           simp only [Option.some.injEq,Prod.mk.injEq] at H
           obtain ⟨rfl,rfl⟩:=H
           have hnb364:=NB217_218.out
           have hnc364:=NB218_217.out
           obtain ⟨hcz365_0,hcz365_1,hcz365_2,hfz365_0,hfz365_1,hfz365_2⟩:=zr BK217.out
           obtain ⟨hcz366_0,hcz366_1,hcz366_2,hfz366_0,hfz366_1,hfz366_2⟩:=zr BK218.out
           go_wp2
           go_ret2
           exact⟨by first|rfl|(simp [zk,zx] <;> rfl)|(simp [*,zk,zx] <;> rfl),bw⟩
          rw [if_neg c363] at H
          have c363b0:=decide_eq_false c363
          clear c363
          simp only [Option.some.injEq,Prod.mk.injEq] at H
          obtain ⟨rfl,rfl⟩:=H
          have hnb367:=NB217_218.out
          have hnc367:=NB218_217.out
          obtain ⟨hcz368_0,hcz368_1,hcz368_2,hfz368_0,hfz368_1,hfz368_2⟩:=zr BK217.out
          obtain ⟨hcz369_0,hcz369_1,hcz369_2,hfz369_0,hfz369_1,hfz369_2⟩:=zr BK218.out
          go_wp2
          go_ret2
          exact⟨by first|rfl|(simp [zk,zx] <;> rfl)|(simp [*,zk,zx] <;> rfl),bw⟩
         rw [if_neg c362] at H
         have c362b0:(a0 == 18)=false:=beq_eq_false_iff_ne.mpr c362
         have c362b1:(a0 != 18)=true:=bne_iff_ne.mpr c362
         simp only [Option.some.injEq,Prod.mk.injEq] at H
         obtain ⟨rfl,rfl⟩:=H
         have hnb370:=NB217_218.out
         have hnc370:=NB218_217.out
         obtain ⟨hcz371_0,hcz371_1,hcz371_2,hfz371_0,hfz371_1,hfz371_2⟩:=zr BK217.out
         obtain ⟨hcz372_0,hcz372_1,hcz372_2,hfz372_0,hfz372_1,hfz372_2⟩:=zr BK218.out
         go_wp2
         go_ret2
         exact⟨by first|rfl|(simp [zk,zx] <;> rfl)|(simp [*,zk,zx] <;> rfl),bw⟩
        rw [if_neg c357] at H
        have c357b0:(a0 == 17)=false:=beq_eq_false_iff_ne.mpr c357
        have c357b1:(a0 != 17)=true:=bne_iff_ne.mpr c357
        by_cases c373:a0=18
        ·rw [if_pos c373] at H
         have c373b0:(a0 == 18)=true:=beq_iff_eq.mpr c373
         have c373b1:(a0 != 18)=false:=bne_eq_false_iff_eq.mpr c373
         clear c373
         by_cases c374:t219 ≥ 0
         ·rw [if_pos c374] at H
          have c374b0:=decide_eq_true c374
          clear c374
          simp only [Option.some.injEq,Prod.mk.injEq] at H
          obtain ⟨rfl,rfl⟩:=H
          have hnb375:=NB217_218.out
          have hnc375:=NB218_217.out
          obtain ⟨hcz376_0,hcz376_1,hcz376_2,hfz376_0,hfz376_1,hfz376_2⟩:=zr BK217.out
          obtain ⟨hcz377_0,hcz377_1,hcz377_2,hfz377_0,hfz377_1,hfz377_2⟩:=zr BK218.out
          go_wp2
          go_ret2
          exact⟨by first|rfl|(simp [zk,zx] <;> rfl)|(simp [*,zk,zx] <;> rfl),bw⟩
         rw [if_neg c374] at H
         have c374b0:=decide_eq_false c374
         clear c374
         simp only [Option.some.injEq,Prod.mk.injEq] at H
         obtain ⟨rfl,rfl⟩:=H
         have hnb378:=NB217_218.out
         have hnc378:=NB218_217.out
         obtain ⟨hcz379_0,hcz379_1,hcz379_2,hfz379_0,hfz379_1,hfz379_2⟩:=zr BK217.out
         obtain ⟨hcz380_0,hcz380_1,hcz380_2,hfz380_0,hfz380_1,hfz380_2⟩:=zr BK218.out
         go_wp2
         go_ret2
         exact⟨by first|rfl|(simp [zk,zx] <;> rfl)|(simp [*,zk,zx] <;> rfl),bw⟩
        rw [if_neg c373] at H
        have c373b0:(a0 == 18)=false:=beq_eq_false_iff_ne.mpr c373
        have c373b1:(a0 != 18)=true:=bne_iff_ne.mpr c373
        simp only [Option.some.injEq,Prod.mk.injEq] at H
        obtain ⟨rfl,rfl⟩:=H
        have hnb381:=NB217_218.out
        have hnc381:=NB218_217.out
        obtain ⟨hcz382_0,hcz382_1,hcz382_2,hfz382_0,hfz382_1,hfz382_2⟩:=zr BK217.out
        obtain ⟨hcz383_0,hcz383_1,hcz383_2,hfz383_0,hfz383_1,hfz383_2⟩:=zr BK218.out
        go_wp2
        go_ret2
        exact⟨by first|rfl|(simp [zk,zx] <;> rfl)|(simp [*,zk,zx] <;> rfl),bw⟩
       rw [if_neg c352] at H
       have c352b0:(a0 == 16)=false:=beq_eq_false_iff_ne.mpr c352
       have c352b1:(a0 != 16)=true:=bne_iff_ne.mpr c352
       by_cases c384:a0=17
       ·rw [if_pos c384] at H
        have c384b0:(a0 == 17)=true:=beq_iff_eq.mpr c384
        have c384b1:(a0 != 17)=false:=bne_eq_false_iff_eq.mpr c384
        clear c384
        by_cases c385:t219 > 0
        ·rw [if_pos c385] at H
         have c385b0:=decide_eq_true c385
         clear c385
         simp only [Option.some.injEq,Prod.mk.injEq] at H
         obtain ⟨rfl,rfl⟩:=H
         have hnb386:=NB217_218.out
         have hnc386:=NB218_217.out
         obtain ⟨hcz387_0,hcz387_1,hcz387_2,hfz387_0,hfz387_1,hfz387_2⟩:=zr BK217.out
         obtain ⟨hcz388_0,hcz388_1,hcz388_2,hfz388_0,hfz388_1,hfz388_2⟩:=zr BK218.out
         go_wp2
         go_ret2
         exact⟨by first|rfl|(simp [zk,zx] <;> rfl)|(simp [*,zk,zx] <;> rfl),bw⟩
        rw [if_neg c385] at H
        have c385b0:=decide_eq_false c385
        clear c385
        by_cases c389:a0=18
        ·rw [if_pos c389] at H
         have c389b0:(a0 == 18)=true:=beq_iff_eq.mpr c389
         have c389b1:(a0 != 18)=false:=bne_eq_false_iff_eq.mpr c389
         clear c389
         by_cases c390:t219 ≥ 0
         ·rw [if_pos c390] at H
          have c390b0:=decide_eq_true c390
          clear c390
          simp only [Option.some.injEq,Prod.mk.injEq] at H
          obtain ⟨rfl,rfl⟩:=H
          have hnb391:=NB217_218.out
          have hnc391:=NB218_217.out
          obtain ⟨hcz392_0,hcz392_1,hcz392_2,hfz392_0,hfz392_1,hfz392_2⟩:=zr BK217.out
          obtain ⟨hcz393_0,hcz393_1,hcz393_2,hfz393_0,hfz393_1,hfz393_2⟩:=zr BK218.out
          go_wp2
          go_ret2
          exact⟨by first|rfl|(simp [zk,zx] <;> rfl)|(simp [*,zk,zx] <;> rfl),bw⟩
         rw [if_neg c390] at H
         have c390b0:=decide_eq_false c390
         clear c390
         simp only [Option.some.injEq,Prod.mk.injEq] at H
         obtain ⟨rfl,rfl⟩:=H
         have hnb394:=NB217_218.out
         have hnc394:=NB218_217.out
         obtain ⟨hcz395_0,hcz395_1,hcz395_2,hfz395_0,hfz395_1,hfz395_2⟩:=zr BK217.out
         obtain ⟨hcz396_0,hcz396_1,hcz396_2,hfz396_0,hfz396_1,hfz396_2⟩:=zr BK218.out
         go_wp2
         go_ret2
         exact⟨by first|rfl|(simp [zk,zx] <;> rfl)|(simp [*,zk,zx] <;> rfl),bw⟩
        rw [if_neg c389] at H
        have c389b0:(a0 == 18)=false:=beq_eq_false_iff_ne.mpr c389
        have c389b1:(a0 != 18)=true:=bne_iff_ne.mpr c389
        simp only [Option.some.injEq,Prod.mk.injEq] at H
        obtain ⟨rfl,rfl⟩:=H
        have hnb397:=NB217_218.out
        have hnc397:=NB218_217.out
        obtain ⟨hcz398_0,hcz398_1,hcz398_2,hfz398_0,hfz398_1,hfz398_2⟩:=zr BK217.out
        obtain ⟨hcz399_0,hcz399_1,hcz399_2,hfz399_0,hfz399_1,hfz399_2⟩:=zr BK218.out
        go_wp2
        go_ret2
        exact⟨by first|rfl|(simp [zk,zx] <;> rfl)|(simp [*,zk,zx] <;> rfl),bw⟩
       rw [if_neg c384] at H
       have c384b0:(a0 == 17)=false:=beq_eq_false_iff_ne.mpr c384
       have c384b1:(a0 != 17)=true:=bne_iff_ne.mpr c384
       by_cases c400:a0=18
       ·rw [if_pos c400] at H
        have c400b0:(a0 == 18)=true:=beq_iff_eq.mpr c400
        have c400b1:(a0 != 18)=false:=bne_eq_false_iff_eq.mpr c400
        clear c400
        by_cases c401:t219 ≥ 0
        ·rw [if_pos c401] at H
         have c401b0:=decide_eq_true c401
         clear c401
         simp only [Option.some.injEq,Prod.mk.injEq] at H
         obtain ⟨rfl,rfl⟩:=H
         have hnb402:=NB217_218.out
         have hnc402:=NB218_217.out
         obtain ⟨hcz403_0,hcz403_1,hcz403_2,hfz403_0,hfz403_1,hfz403_2⟩:=zr BK217.out
         obtain ⟨hcz404_0,hcz404_1,hcz404_2,hfz404_0,hfz404_1,hfz404_2⟩:=zr BK218.out
         go_wp2
         go_ret2
         exact⟨by first|rfl|(simp [zk,zx] <;> rfl)|(simp [*,zk,zx] <;> rfl),bw⟩
        rw [if_neg c401] at H
        have c401b0:=decide_eq_false c401
        clear c401
        simp only [Option.some.injEq,Prod.mk.injEq] at H
        obtain ⟨rfl,rfl⟩:=H
        have hnb405:=NB217_218.out
        have hnc405:=NB218_217.out
        obtain ⟨hcz406_0,hcz406_1,hcz406_2,hfz406_0,hfz406_1,hfz406_2⟩:=zr BK217.out
        obtain ⟨hcz407_0,hcz407_1,hcz407_2,hfz407_0,hfz407_1,hfz407_2⟩:=zr BK218.out
        go_wp2
        go_ret2
        exact⟨by first|rfl|(simp [zk,zx] <;> rfl)|(simp [*,zk,zx] <;> rfl),bw⟩
       rw [if_neg c400] at H
       have c400b0:(a0 == 18)=false:=beq_eq_false_iff_ne.mpr c400
       have c400b1:(a0 != 18)=true:=bne_iff_ne.mpr c400
       simp only [Option.some.injEq,Prod.mk.injEq] at H
       obtain ⟨rfl,rfl⟩:=H
       have hnb408:=NB217_218.out
       have hnc408:=NB218_217.out
       obtain ⟨hcz409_0,hcz409_1,hcz409_2,hfz409_0,hfz409_1,hfz409_2⟩:=zr BK217.out
       obtain ⟨hcz410_0,hcz410_1,hcz410_2,hfz410_0,hfz410_1,hfz410_2⟩:=zr BK218.out
       go_wp2
       go_ret2
       exact⟨by first|rfl|(simp [zk,zx] <;> rfl)|(simp [*,zk,zx] <;> rfl),bw⟩
      rw [if_neg c27] at H
      have c27b0:(a1_0 == a2_0)=false:=beq_eq_false_iff_ne.mpr c27
      have c27b1:(a1_0 != a2_0)=true:=bne_iff_ne.mpr c27
      simp only [Option.some.injEq,Prod.mk.injEq] at H
      obtain ⟨rfl,rfl⟩:=H
      have hnb411:=NB217_218.out
      have hnc411:=NB218_217.out
      obtain ⟨hcz412_0,hcz412_1,hcz412_2,hfz412_0,hfz412_1,hfz412_2⟩:=zr BK217.out
      obtain ⟨hcz413_0,hcz413_1,hcz413_2,hfz413_0,hfz413_1,hfz413_2⟩:=zr BK218.out
      go_wp2
      go_ret2
      exact⟨by first|rfl|(simp [zk,zx] <;> rfl)|(simp [*,zk,zx] <;> rfl),bw⟩
   rw [if_neg c14] at H
   have c14b0:(t220 == 0)=false:=beq_eq_false_iff_ne.mpr c14
   have c14b1:(t220 != 0)=true:=bne_iff_ne.mpr c14
   simp only [Option.some.injEq,Prod.mk.injEq] at H
   obtain ⟨rfl,rfl⟩:=H
   have hnb414:=NB217_218.out
   have hnc414:=NB218_217.out
   obtain ⟨hcz415_0,hcz415_1,hcz415_2,hfz415_0,hfz415_1,hfz415_2⟩:=zr BK217.out
   obtain ⟨hcz416_0,hcz416_1,hcz416_2,hfz416_0,hfz416_1,hfz416_2⟩:=zr BK218.out
   go_wp2_with (first|((with_reducible refine zs (f:=110) rfl ?_);refine qo (some 35) rfl rfl Tryd.func110 (by kernel_rfl) rfl #[.agg #[.int .i64 a1_0,.int .i64 a1_1,.string a1_2],.agg #[.int .i64 a2_0,.int .i64 a2_1,.string a2_2]] rfl gs ?_;(with_reducible refine(zqc.calls kj3 a1_0 a1_1 a1_2 a2_0 a2_1 a2_2 t219 t220 _ A13.out).mono ?_);rintro e w417 ⟨rfl,hb⟩;refine⟨_,rfl,?_⟩;replace BK217:=zq.mk (zf (g:=gb217) (o:=.cells #[.int .i64 a1_0,.int .i64 a1_1,.string a1_2] 30 (0,0)) (up BK217.out) hb);replace BK218:=zq.mk (zf (g:=gb218) (o:=.cells #[.int .i64 a2_0,.int .i64 a2_1,.string a2_2] 30 (0,0)) (up BK218.out) hb);replace HB:=zq.mk (zb bw hb);(try clear hb);(try clear hb2);(try clear hk);(try clear hi)))
   go_ret2
   exact⟨by first|rfl|(simp [zk,zx] <;> rfl)|(simp [*,zk,zx] <;> rfl),bw⟩

end Go.Proofs.YtmfpaeajibeikaaDoor.PEvalHolds
