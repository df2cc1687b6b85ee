-- Written by wip/pp of this repo (over the kit's print, with additions of this session); Lean checks every line.
import Derived.Test.YtmfpaeajibeikaaDoorPEvalHoldsx7
import Derived.Test.YtmfpaeajibeikaaDoorPEvalHoldsx9
namespace Go.Proofs.YtmfpaeajibeikaaDoor.PEvalHolds
open Go.RowKit Go.Proofs.YtmfpaeajibeikaaDoorW.PrintWords Go.Proofs.YtmfpaeajibeikaaDoorW.PrintLast Go.Proofs.YtmfpaeajibeikaaDoorW.PrintMore
attribute [local go_sem] zje zjc zjo zjn zq1 zq0 zjd zjb   -- for this text's walks alone
set_option linter.unusedVariables false
set_option linter.unusedSimpArgs false

/-! ### zc: function 51 -/
mutual
def zc.j0:Nat→Int→Bool→Int→Int→Int→ByteArray→ByteArray→ByteArray→Int→List (S33)→Option (Bool)
 | 0,_,_,_,_,_,_,_,_,_,_=>none
 | k+1,x1,x12,x178000,x178001,x178002,x178003,x178004,x178005,x178006,x178007=>if x12=true then(some false) else (if x178000=1 then(if(x178007.length:Int)=0 then(if x178006=0 then((zw.f k x178001 x178002 x178003).bind fun t178=>(some (t178 == 0))) else (some false)) else (some false)) else ((zqb.f x178001 x178002 x178003).bind fun t179=>(if t179=true then(if x178000=3 then(if(x178007.length:Int)=0 then(if x178006 ≥ 0 then(some (decide (x178006<x1))) else (some false)) else (some false)) else (if x178006=0 then(if x178000=4 then(zc.j1 k x1 x178000 (x178000 == 4) x178000 x178001 x178002 x178003 x178004 x178005 x178006 x178007) else (if x178000=5 then(zc.j1 k x1 x178000 (x178000 == 5) x178000 x178001 x178002 x178003 x178004 x178005 x178006 x178007) else (if x178000=6 then(zc.j1 k x1 x178000 (x178000 == 6) x178000 x178001 x178002 x178003 x178004 x178005 x178006 x178007) else (zc.j1 k x1 x178000 (x178000 == 7) x178000 x178001 x178002 x178003 x178004 x178005 x178006 x178007)))) else (some false))) else (some false))))
def zc.j1:Nat→Int→Int→Bool→Int→Int→Int→ByteArray→ByteArray→ByteArray→Int→List (S33)→Option (Bool)
 | 0,_,_,_,_,_,_,_,_,_,_,_=>none
 | k+1,x1,x57,x58,x178000,x178001,x178002,x178003,x178004,x178005,x178006,x178007=>if x58=true then(if(x178007.length:Int)=1 then(if 0<(x178007.length:Int) then((zc.f k ((zg x178007 0).f0) ((zg x178007 0).f1.f0) ((zg x178007 0).f1.f1) ((zg x178007 0).f1.f2) ((zg x178007 0).f2) ((zg x178007 0).f3) ((zg x178007 0).f4) ((zg x178007 0).f5) x1).bind fun t181=>(some t181)) else (none)) else (some false)) else (if x57=8 then(zc.j2 k x1 (x57 == 8) x178000 x178001 x178002 x178003 x178004 x178005 x178006 x178007) else (if x57=9 then(zc.j2 k x1 (x57 == 9) x178000 x178001 x178002 x178003 x178004 x178005 x178006 x178007) else (if x57=10 then(zc.j2 k x1 (x57 == 10) x178000 x178001 x178002 x178003 x178004 x178005 x178006 x178007) else (if x57=11 then(zc.j2 k x1 (x57 == 11) x178000 x178001 x178002 x178003 x178004 x178005 x178006 x178007) else (if x57=12 then(zc.j2 k x1 (x57 == 12) x178000 x178001 x178002 x178003 x178004 x178005 x178006 x178007) else (if x57=13 then(zc.j2 k x1 (x57 == 13) x178000 x178001 x178002 x178003 x178004 x178005 x178006 x178007) else (if x57=14 then(zc.j2 k x1 (x57 == 14) x178000 x178001 x178002 x178003 x178004 x178005 x178006 x178007) else (if x57=15 then(zc.j2 k x1 (x57 == 15) x178000 x178001 x178002 x178003 x178004 x178005 x178006 x178007) else (if x57=16 then(zc.j2 k x1 (x57 == 16) x178000 x178001 x178002 x178003 x178004 x178005 x178006 x178007) else (if x57=17 then(zc.j2 k x1 (x57 == 17) x178000 x178001 x178002 x178003 x178004 x178005 x178006 x178007) else (if x57=18 then(zc.j2 k x1 (x57 == 18) x178000 x178001 x178002 x178003 x178004 x178005 x178006 x178007) else (if x57=19 then(zc.j2 k x1 (x57 == 19) x178000 x178001 x178002 x178003 x178004 x178005 x178006 x178007) else (zc.j2 k x1 (x57 == 20) x178000 x178001 x178002 x178003 x178004 x178005 x178006 x178007)))))))))))))
def zc.j2:Nat→Int→Bool→Int→Int→Int→ByteArray→ByteArray→ByteArray→Int→List (S33)→Option (Bool)
 | 0,_,_,_,_,_,_,_,_,_,_=>none
 | k+1,x1,x75,x178000,x178001,x178002,x178003,x178004,x178005,x178006,x178007=>if x75=true then(if(x178007.length:Int)=2 then(if 0<(x178007.length:Int) then((zc.f k ((zg x178007 0).f0) ((zg x178007 0).f1.f0) ((zg x178007 0).f1.f1) ((zg x178007 0).f1.f2) ((zg x178007 0).f2) ((zg x178007 0).f3) ((zg x178007 0).f4) ((zg x178007 0).f5) x1).bind fun t183=>(if t183=true then(if 1<(x178007.length:Int) then((zc.f k ((zg x178007 1).f0) ((zg x178007 1).f1.f0) ((zg x178007 1).f1.f1) ((zg x178007 1).f1.f2) ((zg x178007 1).f2) ((zg x178007 1).f3) ((zg x178007 1).f4) ((zg x178007 1).f5) x1).bind fun t185=>(some t185)) else (none)) else (some false))) else (none)) else (some false)) else (some false)
def zc.f:Nat→Int→Int→Int→ByteArray→ByteArray→ByteArray→Int→List (S33)→Int→Option (Bool)
 | 0,_,_,_,_,_,_,_,_,_=>none
 | k+1,a0_0,a0_1,a0_2,a0_3,a0_4,a0_5,a0_6,l0_7,a1=>if a0_4.toList=([]:List UInt8) then(zc.j0 k a1 (a0_5.toList != ([]:List UInt8)) a0_0 a0_1 a0_2 a0_3 a0_4 a0_5 a0_6 l0_7) else (zc.j0 k a1 true a0_0 a0_1 a0_2 a0_3 a0_4 a0_5 a0_6 l0_7)
end
theorem zc.mono_l:∀ k,(∀ y0 y1 y2 y3 y4 y5 y6 y7 y8,LeO (zc.f k y0 y1 y2 y3 y4 y5 y6 y7 y8) (zc.f (k+1) y0 y1 y2 y3 y4 y5 y6 y7 y8))∧(∀ y0 y1 y2 y3 y4 y5 y6 y7 y8 y9,LeO (zc.j0 k y0 y1 y2 y3 y4 y5 y6 y7 y8 y9) (zc.j0 (k+1) y0 y1 y2 y3 y4 y5 y6 y7 y8 y9))∧(∀ y0 y1 y2 y3 y4 y5 y6 y7 y8 y9 y10,LeO (zc.j1 k y0 y1 y2 y3 y4 y5 y6 y7 y8 y9 y10) (zc.j1 (k+1) y0 y1 y2 y3 y4 y5 y6 y7 y8 y9 y10))∧(∀ y0 y1 y2 y3 y4 y5 y6 y7 y8 y9,LeO (zc.j2 k y0 y1 y2 y3 y4 y5 y6 y7 y8 y9) (zc.j2 (k+1) y0 y1 y2 y3 y4 y5 y6 y7 y8 y9))
 | 0=>⟨fun _ _ _ _ _ _ _ _ _ r h=>by simp [zc.f] at h,fun _ _ _ _ _ _ _ _ _ _ r h=>by simp [zc.j0] at h,fun _ _ _ _ _ _ _ _ _ _ _ r h=>by simp [zc.j1] at h,fun _ _ _ _ _ _ _ _ _ _ r h=>by simp [zc.j2] at h⟩
 | k+1=>by
  obtain ⟨ih0,ih1,ih2,ih3⟩:=zc.mono_l k
  refine⟨?_,?_,?_,?_⟩
  ·intro y0 y1 y2 y3 y4 y5 y6 y7 y8
   unfold zc.f
   repeat' first
   | (with_reducible first|exact ih0 _ _ _ _ _ _ _ _ _|exact ih1 _ _ _ _ _ _ _ _ _ _|exact ih2 _ _ _ _ _ _ _ _ _ _ _|exact ih3 _ _ _ _ _ _ _ _ _ _|exact zw.mono _ _ _ _|exact LeO.refl _|exact LeO.none _|refine LeO.ite ?_ ?_|refine LeO.bind ?_ (fun _=>?_))
   | exact ih0 _ _ _ _ _ _ _ _ _
   | exact ih1 _ _ _ _ _ _ _ _ _ _
   | exact ih2 _ _ _ _ _ _ _ _ _ _ _
   | exact ih3 _ _ _ _ _ _ _ _ _ _
   | exact zw.mono _ _ _ _
   | exact LeO.none _
   | refine LeO.ite ?_ ?_
   | refine LeO.bind ?_ (fun _=>?_)
  ·intro y0 y1 y2 y3 y4 y5 y6 y7 y8 y9
   unfold zc.j0
   repeat' first
   | (with_reducible first|exact ih0 _ _ _ _ _ _ _ _ _|exact ih1 _ _ _ _ _ _ _ _ _ _|exact ih2 _ _ _ _ _ _ _ _ _ _ _|exact ih3 _ _ _ _ _ _ _ _ _ _|exact zw.mono _ _ _ _|exact LeO.refl _|exact LeO.none _|refine LeO.ite ?_ ?_|refine LeO.bind ?_ (fun _=>?_))
   | exact ih0 _ _ _ _ _ _ _ _ _
   | exact ih1 _ _ _ _ _ _ _ _ _ _
   | exact ih2 _ _ _ _ _ _ _ _ _ _ _
   | exact ih3 _ _ _ _ _ _ _ _ _ _
   | exact zw.mono _ _ _ _
   | exact LeO.none _
   | refine LeO.ite ?_ ?_
   | refine LeO.bind ?_ (fun _=>?_)
  ·intro y0 y1 y2 y3 y4 y5 y6 y7 y8 y9 y10
   unfold zc.j1
   repeat' first
   | (with_reducible first|exact ih0 _ _ _ _ _ _ _ _ _|exact ih1 _ _ _ _ _ _ _ _ _ _|exact ih2 _ _ _ _ _ _ _ _ _ _ _|exact ih3 _ _ _ _ _ _ _ _ _ _|exact zw.mono _ _ _ _|exact LeO.refl _|exact LeO.none _|refine LeO.ite ?_ ?_|refine LeO.bind ?_ (fun _=>?_))
   | exact ih0 _ _ _ _ _ _ _ _ _
   | exact ih1 _ _ _ _ _ _ _ _ _ _
   | exact ih2 _ _ _ _ _ _ _ _ _ _ _
   | exact ih3 _ _ _ _ _ _ _ _ _ _
   | exact zw.mono _ _ _ _
   | exact LeO.none _
   | refine LeO.ite ?_ ?_
   | refine LeO.bind ?_ (fun _=>?_)
  intro y0 y1 y2 y3 y4 y5 y6 y7 y8 y9
  unfold zc.j2
  repeat' first
  | (with_reducible first|exact ih0 _ _ _ _ _ _ _ _ _|exact ih1 _ _ _ _ _ _ _ _ _ _|exact ih2 _ _ _ _ _ _ _ _ _ _ _|exact ih3 _ _ _ _ _ _ _ _ _ _|exact zw.mono _ _ _ _|exact LeO.refl _|exact LeO.none _|refine LeO.ite ?_ ?_|refine LeO.bind ?_ (fun _=>?_))
  | exact ih0 _ _ _ _ _ _ _ _ _
  | exact ih1 _ _ _ _ _ _ _ _ _ _
  | exact ih2 _ _ _ _ _ _ _ _ _ _ _
  | exact ih3 _ _ _ _ _ _ _ _ _ _
  | exact zw.mono _ _ _ _
  | exact LeO.none _
  | refine LeO.ite ?_ ?_
  | refine LeO.bind ?_ (fun _=>?_)
theorem zc.mono:∀ a0 a1 a2 a3 a4 a5 a6 a7 a8 k,LeO (zc.f k a0 a1 a2 a3 a4 a5 a6 a7 a8) (zc.f (k+1) a0 a1 a2 a3 a4 a5 a6 a7 a8):=by
 intro a0 a1 a2 a3 a4 a5 a6 a7 a8 k
 obtain ⟨ih0,ih1,ih2,ih3⟩:=zc.mono_l k
 exact ih0 a0 a1 a2 a3 a4 a5 a6 a7 a8
set_option maxHeartbeats 8000000 in
set_option maxRecDepth 100000 in
theorem zc.calls (k:Nat):∀ (a0_0:Int) (a0_1:Int) (a0_2:Int) (a0_3:ByteArray) (a0_4:ByteArray) (a0_5:ByteArray) (a0_6:Int) (A0_7:Option Addr) (c0_7:Nat) (l0_7:List (S33)) (a1:Int) (r:Bool) (w:World) (hr0_7:Kd.C k33 w A0_7 l0_7.length l0_7) (hc0_7:l0_7.length≤c0_7) (h:zc.f k a0_0 a0_1 a0_2 a0_3 a0_4 a0_5 a0_6 l0_7 a1=some r),
  Calls Tryd.prog 51 #[.agg #[.int .i64 a0_0,.int .i64 a0_1,.int .i64 a0_2,.string a0_3,.string a0_4,.string a0_5,.int .i64 a0_6,.slice A0_7 l0_7.length c0_7],.int .i64 a1] w fun e w'=>e = .returned (.bool r)∧Below w.heap.size w w':=by
 induction k using Nat.strongRecOn with
 | _ k ih=>
 intro a0_0 a0_1 a0_2 a0_3 a0_4 a0_5 a0_6 A0_7 c0_7 l0_7 a1 r w hr0_7 hc0_7 h
 cases k with
 | zero=>exact absurd h (by simp [zc.f])
 | succ k=>
 simp only [zc.f] at h
 have hu33:=Tryd.underlying33
 have hu30:=Tryd.underlying30
 have HR0_7:=zq.mk hr0_7
 have HC0_7:=zq.mk hc0_7
 clear hr0_7 hc0_7
 have HB:=zq.mk (Below.refl w.heap.size w)
 have H:(if a0_4.toList=([]:List UInt8) then(zc.j0 k a1 (a0_5.toList != ([]:List UInt8)) a0_0 a0_1 a0_2 a0_3 a0_4 a0_5 a0_6 l0_7) else (zc.j0 k a1 true a0_0 a0_1 a0_2 a0_3 a0_4 a0_5 a0_6 l0_7))=some r:=h
 clear h
 have HC3:=zq.mk H
 clear H
 go_enter Tryd.func51,Tryd.ntmps51
 go_upto_region 1 with (first|((with_reducible refine ql (N:=2) rfl ?_);refine qh ?hg (N:=2) ?hd (cs:=#[.int .i64 a0_0,.int .i64 a0_1,.int .i64 a0_2,.string a0_3,.string a0_4,.string a0_5,.int .i64 a0_6,.slice A0_7 l0_7.length c0_7]) (t:=33) ?hr ?_;(case hd=>rfl);(case hg=>rfl);(case hr=>first|(go_simp;done)|(go_simp;rfl));intro gb177 hg w4 hbox hb;have BK177:=zq.mk (hbox);have GW177:=zq.mk ((by rw [hg];exact(zv bw):w.heap.size≤gb177));have GE177:=zq.mk ((by rw [hg];exact(zv bw):w.heap.size≤gb177));replace HB:=zq.mk (zb bw hb);clear hb hbox hg))
 (try simp only [Act.put,List.setIfInBounds_toArray,List.set_cons_zero,List.set_cons_succ])
 go_cut [12] (fun v12 wc => ∃ (kq:Nat) (x12_2:Bool),v12 = .bool x12_2∧zq (zc.j0 kq a1 x12_2 a0_0 a0_1 a0_2 a0_3 a0_4 a0_5 a0_6 l0_7=some r)∧zq (kq≤k)∧zq (wc.heap[gb177]? = some (.cells #[.int .i64 a0_0,.int .i64 a0_1,.int .i64 a0_2,.string a0_3,.string a0_4,.string a0_5,.int .i64 a0_6,(.slice A0_7 l0_7.length c0_7)] 33 (0,0)))∧zq (Below w.heap.size w wc))
 case first=>
  have H:=HC3.out
  clear HC3
  by_cases c5:a0_4.toList=([]:List UInt8)
  ·rw [if_pos c5] at H
   have c5b0:(a0_4.toList == ([]:List UInt8))=true:=beq_iff_eq.mpr c5
   have c5b1:(a0_4.toList != ([]:List UInt8))=false:=bne_eq_false_iff_eq.mpr c5
   clear c5
   (first|rw [c5b0]|(simp only [zqw,zqx];rw [c5b0])|skip)
   have H':=zq.mk H
   clear H
   obtain ⟨hcz6_0,hcz6_1,hcz6_2,hcz6_3,hcz6_4,hcz6_5,hcz6_6,hcz6_7,hfz6_0,hfz6_1,hfz6_2,hfz6_3,hfz6_4,hfz6_5,hfz6_6,hfz6_7⟩:=zql BK177.out
   go_wp2
   go_meet
   case rel=>exact⟨_,((a0_5.toList != ([]:List UInt8))),vr,H',⟨by first|omega|exact Nat.le_refl _⟩,⟨by(with_reducible repeat(first|refine zn ?_ _|refine zt ?_|refine zy ?_ _));exact BK177.out⟩,⟨bw⟩⟩
  rw [if_neg c5] at H
  have c5b0:(a0_4.toList == ([]:List UInt8))=false:=beq_eq_false_iff_ne.mpr c5
  have c5b1:(a0_4.toList != ([]:List UInt8))=true:=bne_iff_ne.mpr c5
  (first|rw [c5b0]|(simp only [zqw,zqx];rw [c5b0])|skip)
  have H':=zq.mk H
  clear H
  obtain ⟨hcz7_0,hcz7_1,hcz7_2,hcz7_3,hcz7_4,hcz7_5,hcz7_6,hcz7_7,hfz7_0,hfz7_1,hfz7_2,hfz7_3,hfz7_4,hfz7_5,hfz7_6,hfz7_7⟩:=zql BK177.out
  go_wp2
  go_meet
  case rel=>exact⟨_,(true),vr,H',⟨by first|omega|exact Nat.le_refl _⟩,⟨by(with_reducible repeat(first|refine zn ?_ _|refine zt ?_|refine zy ?_ _));exact BK177.out⟩,⟨bw⟩⟩
 case rest=>
  clear HC3
  (try clear BK177)
  obtain ⟨kq,x12_2,rfl,HA,HJ2,BK177,HB⟩:=hcut
  cases kq with
  | zero=>exact absurd HA.out (by simp [zc.j0])
  | succ kj2=>
   have H:=HA.out
   clear HA
   simp only [zc.j0] at H
   by_cases c8:x12_2=true
   ·subst c8
    rw [if_pos rfl] at H
    obtain rfl:=Option.some.inj H
    go_wp2
    go_ret
    exact⟨by first|rfl|(simp [zk,zx] <;> rfl)|(simp [*,zk,zx] <;> rfl),bw⟩
   replace c8:=Bool.eq_false_iff.mpr c8
   subst c8
   rw [if_neg (show ¬ (false=true) by decide)] at H
   by_cases c9:a0_0=1
   ·rw [if_pos c9] at H
    have c9b0:(a0_0 == 1)=true:=beq_iff_eq.mpr c9
    have c9b1:(a0_0 != 1)=false:=bne_eq_false_iff_eq.mpr c9
    clear c9
    by_cases c10:(l0_7.length:Int)=0
    ·rw [if_pos c10] at H
     have c10b0:((l0_7.length:Int) == 0)=true:=beq_iff_eq.mpr c10
     have c10b1:((l0_7.length:Int) != 0)=false:=bne_eq_false_iff_eq.mpr c10
     clear c10
     by_cases c11:a0_6=0
     ·rw [if_pos c11] at H
      have c11b0:(a0_6 == 0)=true:=beq_iff_eq.mpr c11
      have c11b1:(a0_6 != 0)=false:=bne_eq_false_iff_eq.mpr c11
      clear c11
      replace H:=Option.bind_eq_some_iff.mp H
      obtain ⟨t178,A120,H⟩:=H
      replace H:(some (t178 == 0))=some r:=H
      have A12:=zq.mk A120
      clear A120
      obtain rfl:=Option.some.inj H
      obtain ⟨hcz13_0,hcz13_1,hcz13_2,hcz13_3,hcz13_4,hcz13_5,hcz13_6,hcz13_7,hfz13_0,hfz13_1,hfz13_2,hfz13_3,hfz13_4,hfz13_5,hfz13_6,hfz13_7⟩:=zql BK177.out
      go_wp2_with (first|(go_at_call 49;(with_reducible refine(zw.calls kj2 a0_1 a0_2 a0_3 t178 _ A12.out).mono ?_);rintro e w14 ⟨rfl,hb⟩;replace BK177:=zq.mk (zf (g:=gb177) (o:=.cells #[.int .i64 a0_0,.int .i64 a0_1,.int .i64 a0_2,.string a0_3,.string a0_4,.string a0_5,.int .i64 a0_6,.slice A0_7 l0_7.length c0_7] 33 (0,0)) (up BK177.out) hb);replace HB:=zq.mk (zb bw hb);(try clear hb);(try clear hb2);(try clear hk);(try clear hi)))
      go_ret
      exact⟨by first|rfl|(simp [zk,zx] <;> rfl)|(simp [*,zk,zx] <;> rfl),bw⟩
     rw [if_neg c11] at H
     have c11b0:(a0_6 == 0)=false:=beq_eq_false_iff_ne.mpr c11
     have c11b1:(a0_6 != 0)=true:=bne_iff_ne.mpr c11
     obtain rfl:=Option.some.inj H
     obtain ⟨hcz15_0,hcz15_1,hcz15_2,hcz15_3,hcz15_4,hcz15_5,hcz15_6,hcz15_7,hfz15_0,hfz15_1,hfz15_2,hfz15_3,hfz15_4,hfz15_5,hfz15_6,hfz15_7⟩:=zql BK177.out
     go_wp2
     go_ret
     exact⟨by first|rfl|(simp [zk,zx] <;> rfl)|(simp [*,zk,zx] <;> rfl),bw⟩
    rw [if_neg c10] at H
    have c10b0:((l0_7.length:Int) == 0)=false:=beq_eq_false_iff_ne.mpr c10
    have c10b1:((l0_7.length:Int) != 0)=true:=bne_iff_ne.mpr c10
    have c10b2:¬ (l0_7 = []):=fun h_=>c10 (by rw [h_];rfl)
    obtain rfl:=Option.some.inj H
    obtain ⟨hcz16_0,hcz16_1,hcz16_2,hcz16_3,hcz16_4,hcz16_5,hcz16_6,hcz16_7,hfz16_0,hfz16_1,hfz16_2,hfz16_3,hfz16_4,hfz16_5,hfz16_6,hfz16_7⟩:=zql BK177.out
    go_wp2
    go_ret
    exact⟨by first|rfl|(simp [zk,zx] <;> rfl)|(simp [*,zk,zx] <;> rfl),bw⟩
   rw [if_neg c9] at H
   have c9b0:(a0_0 == 1)=false:=beq_eq_false_iff_ne.mpr c9
   have c9b1:(a0_0 != 1)=true:=bne_iff_ne.mpr c9
   replace H:=Option.bind_eq_some_iff.mp H
   obtain ⟨t179,A170,H⟩:=H
   replace H:(if t179=true then(if a0_0=3 then(if(l0_7.length:Int)=0 then(if a0_6 ≥ 0 then(some (decide (a0_6<a1))) else (some false)) else (some false)) else (if a0_6=0 then(if a0_0=4 then(zc.j1 kj2 a1 a0_0 (a0_0 == 4) a0_0 a0_1 a0_2 a0_3 a0_4 a0_5 a0_6 l0_7) else (if a0_0=5 then(zc.j1 kj2 a1 a0_0 (a0_0 == 5) a0_0 a0_1 a0_2 a0_3 a0_4 a0_5 a0_6 l0_7) else (if a0_0=6 then(zc.j1 kj2 a1 a0_0 (a0_0 == 6) a0_0 a0_1 a0_2 a0_3 a0_4 a0_5 a0_6 l0_7) else (zc.j1 kj2 a1 a0_0 (a0_0 == 7) a0_0 a0_1 a0_2 a0_3 a0_4 a0_5 a0_6 l0_7)))) else (some false))) else (some false))=some r:=H
   have A17:=zq.mk A170
   clear A170
   by_cases c18:t179=true
   ·subst c18
    rw [if_pos rfl] at H
    by_cases c19:a0_0=3
    ·rw [if_pos c19] at H
     have c19b0:(a0_0 == 3)=true:=beq_iff_eq.mpr c19
     have c19b1:(a0_0 != 3)=false:=bne_eq_false_iff_eq.mpr c19
     clear c19
     by_cases c20:(l0_7.length:Int)=0
     ·rw [if_pos c20] at H
      have c20b0:((l0_7.length:Int) == 0)=true:=beq_iff_eq.mpr c20
      have c20b1:((l0_7.length:Int) != 0)=false:=bne_eq_false_iff_eq.mpr c20
      clear c20
      by_cases c21:a0_6 ≥ 0
      ·rw [if_pos c21] at H
       have c21b0:=decide_eq_true c21
       clear c21
       obtain rfl:=Option.some.inj H
       obtain ⟨hcz22_0,hcz22_1,hcz22_2,hcz22_3,hcz22_4,hcz22_5,hcz22_6,hcz22_7,hfz22_0,hfz22_1,hfz22_2,hfz22_3,hfz22_4,hfz22_5,hfz22_6,hfz22_7⟩:=zql BK177.out
       go_wp2_with (first|((with_reducible refine zs (f:=48) rfl ?_);refine qo (some 33) rfl rfl Tryd.func48 (by kernel_rfl) rfl #[.agg #[.int .i64 a0_1,.int .i64 a0_2,.string a0_3]] rfl gs ?_;(with_reducible refine(zqb.calls a0_1 a0_2 a0_3 true _ A17.out).mono ?_);rintro e w23 ⟨rfl,hb⟩;refine⟨_,rfl,?_⟩;replace BK177:=zq.mk (zf (g:=gb177) (o:=.cells #[.int .i64 a0_0,.int .i64 a0_1,.int .i64 a0_2,.string a0_3,.string a0_4,.string a0_5,.int .i64 a0_6,.slice A0_7 l0_7.length c0_7] 33 (0,0)) (up BK177.out) hb);replace HB:=zq.mk (zb bw hb);(try clear hb);(try clear hb2);(try clear hk);(try clear hi);obtain ⟨hcz24_0,hcz24_1,hcz24_2,hcz24_3,hcz24_4,hcz24_5,hcz24_6,hcz24_7,hfz24_0,hfz24_1,hfz24_2,hfz24_3,hfz24_4,hfz24_5,hfz24_6,hfz24_7⟩:=zql BK177.out))
       go_ret
       exact⟨by first|rfl|(simp [zk,zx] <;> rfl)|(simp [*,zk,zx] <;> rfl),bw⟩
      rw [if_neg c21] at H
      have c21b0:=decide_eq_false c21
      clear c21
      obtain rfl:=Option.some.inj H
      obtain ⟨hcz25_0,hcz25_1,hcz25_2,hcz25_3,hcz25_4,hcz25_5,hcz25_6,hcz25_7,hfz25_0,hfz25_1,hfz25_2,hfz25_3,hfz25_4,hfz25_5,hfz25_6,hfz25_7⟩:=zql BK177.out
      go_wp2_with (first|((with_reducible refine zs (f:=48) rfl ?_);refine qo (some 33) rfl rfl Tryd.func48 (by kernel_rfl) rfl #[.agg #[.int .i64 a0_1,.int .i64 a0_2,.string a0_3]] rfl gs ?_;(with_reducible refine(zqb.calls a0_1 a0_2 a0_3 true _ A17.out).mono ?_);rintro e w26 ⟨rfl,hb⟩;refine⟨_,rfl,?_⟩;replace BK177:=zq.mk (zf (g:=gb177) (o:=.cells #[.int .i64 a0_0,.int .i64 a0_1,.int .i64 a0_2,.string a0_3,.string a0_4,.string a0_5,.int .i64 a0_6,.slice A0_7 l0_7.length c0_7] 33 (0,0)) (up BK177.out) hb);replace HB:=zq.mk (zb bw hb);(try clear hb);(try clear hb2);(try clear hk);(try clear hi);obtain ⟨hcz27_0,hcz27_1,hcz27_2,hcz27_3,hcz27_4,hcz27_5,hcz27_6,hcz27_7,hfz27_0,hfz27_1,hfz27_2,hfz27_3,hfz27_4,hfz27_5,hfz27_6,hfz27_7⟩:=zql BK177.out))
      go_ret
      exact⟨by first|rfl|(simp [zk,zx] <;> rfl)|(simp [*,zk,zx] <;> rfl),bw⟩
     rw [if_neg c20] at H
     have c20b0:((l0_7.length:Int) == 0)=false:=beq_eq_false_iff_ne.mpr c20
     have c20b1:((l0_7.length:Int) != 0)=true:=bne_iff_ne.mpr c20
     have c20b2:¬ (l0_7 = []):=fun h_=>c20 (by rw [h_];rfl)
     obtain rfl:=Option.some.inj H
     obtain ⟨hcz28_0,hcz28_1,hcz28_2,hcz28_3,hcz28_4,hcz28_5,hcz28_6,hcz28_7,hfz28_0,hfz28_1,hfz28_2,hfz28_3,hfz28_4,hfz28_5,hfz28_6,hfz28_7⟩:=zql BK177.out
     go_wp2_with (first|((with_reducible refine zs (f:=48) rfl ?_);refine qo (some 33) rfl rfl Tryd.func48 (by kernel_rfl) rfl #[.agg #[.int .i64 a0_1,.int .i64 a0_2,.string a0_3]] rfl gs ?_;(with_reducible refine(zqb.calls a0_1 a0_2 a0_3 true _ A17.out).mono ?_);rintro e w29 ⟨rfl,hb⟩;refine⟨_,rfl,?_⟩;replace BK177:=zq.mk (zf (g:=gb177) (o:=.cells #[.int .i64 a0_0,.int .i64 a0_1,.int .i64 a0_2,.string a0_3,.string a0_4,.string a0_5,.int .i64 a0_6,.slice A0_7 l0_7.length c0_7] 33 (0,0)) (up BK177.out) hb);replace HB:=zq.mk (zb bw hb);(try clear hb);(try clear hb2);(try clear hk);(try clear hi);obtain ⟨hcz30_0,hcz30_1,hcz30_2,hcz30_3,hcz30_4,hcz30_5,hcz30_6,hcz30_7,hfz30_0,hfz30_1,hfz30_2,hfz30_3,hfz30_4,hfz30_5,hfz30_6,hfz30_7⟩:=zql BK177.out))
     go_ret
     exact⟨by first|rfl|(simp [zk,zx] <;> rfl)|(simp [*,zk,zx] <;> rfl),bw⟩
    rw [if_neg c19] at H
    have c19b0:(a0_0 == 3)=false:=beq_eq_false_iff_ne.mpr c19
    have c19b1:(a0_0 != 3)=true:=bne_iff_ne.mpr c19
    by_cases c31:a0_6=0
    ·rw [if_pos c31] at H
     have c31b0:(a0_6 == 0)=true:=beq_iff_eq.mpr c31
     have c31b1:(a0_6 != 0)=false:=bne_eq_false_iff_eq.mpr c31
     clear c31
     have HC32:=zq.mk H
     clear H
     obtain ⟨hcz33_0,hcz33_1,hcz33_2,hcz33_3,hcz33_4,hcz33_5,hcz33_6,hcz33_7,hfz33_0,hfz33_1,hfz33_2,hfz33_3,hfz33_4,hfz33_5,hfz33_6,hfz33_7⟩:=zql BK177.out
     go_upto_if 58 with (first|((with_reducible refine zs (f:=48) rfl ?_);refine qo (some 33) rfl rfl Tryd.func48 (by kernel_rfl) rfl #[.agg #[.int .i64 a0_1,.int .i64 a0_2,.string a0_3]] rfl gs ?_;(with_reducible refine(zqb.calls a0_1 a0_2 a0_3 true _ A17.out).mono ?_);rintro e w34 ⟨rfl,hb⟩;refine⟨_,rfl,?_⟩;replace BK177:=zq.mk (zf (g:=gb177) (o:=.cells #[.int .i64 a0_0,.int .i64 a0_1,.int .i64 a0_2,.string a0_3,.string a0_4,.string a0_5,.int .i64 a0_6,.slice A0_7 l0_7.length c0_7] 33 (0,0)) (up BK177.out) hb);replace HB:=zq.mk (zb bw hb);(try clear hb);(try clear hb2);(try clear hk);(try clear hi);obtain ⟨hcz35_0,hcz35_1,hcz35_2,hcz35_3,hcz35_4,hcz35_5,hcz35_6,hcz35_7,hfz35_0,hfz35_1,hfz35_2,hfz35_3,hfz35_4,hfz35_5,hfz35_6,hfz35_7⟩:=zql BK177.out))
     (try simp only [Act.put,List.setIfInBounds_toArray,List.set_cons_zero,List.set_cons_succ])
     go_cut [58] (fun v58 wc => ∃ (kq:Nat) (x58_31:Bool),v58 = .bool x58_31∧zq (zc.j1 kq a1 a0_0 x58_31 a0_0 a0_1 a0_2 a0_3 a0_4 a0_5 a0_6 l0_7=some r)∧zq (kq≤kj2)∧zq (wc.heap[gb177]? = some (.cells #[.int .i64 a0_0,.int .i64 a0_1,.int .i64 a0_2,.string a0_3,.string a0_4,.string a0_5,.int .i64 a0_6,(.slice A0_7 l0_7.length c0_7)] 33 (0,0)))∧zq (Below w.heap.size w wc))
     case first=>
      have H:=HC32.out
      clear HC32
      by_cases c36:a0_0=4
      ·rw [if_pos c36] at H
       have c36b0:(a0_0 == 4)=true:=beq_iff_eq.mpr c36
       have c36b1:(a0_0 != 4)=false:=bne_eq_false_iff_eq.mpr c36
       clear c36
       (first|rw [c36b0]|(simp only [zqw,zqx];rw [c36b0])|skip)
       have H':=zq.mk H
       clear H
       go_wp2
       go_meet
       case rel=>exact⟨_,((a0_0 == 4)),vr,H',⟨by have:=HJ2.out;first|omega|exact Nat.le_refl _⟩,⟨by(with_reducible repeat(first|refine zn ?_ _|refine zt ?_|refine zy ?_ _));exact BK177.out⟩,⟨bw⟩⟩
      rw [if_neg c36] at H
      have c36b0:(a0_0 == 4)=false:=beq_eq_false_iff_ne.mpr c36
      have c36b1:(a0_0 != 4)=true:=bne_iff_ne.mpr c36
      (first|rw [c36b0]|(simp only [zqw,zqx];rw [c36b0])|skip)
      by_cases c37:a0_0=5
      ·rw [if_pos c37] at H
       have c37b0:(a0_0 == 5)=true:=beq_iff_eq.mpr c37
       have c37b1:(a0_0 != 5)=false:=bne_eq_false_iff_eq.mpr c37
       clear c37
       have H':=zq.mk H
       clear H
       go_wp2
       go_meet
       case rel=>exact⟨_,((a0_0 == 5)),vr,H',⟨by have:=HJ2.out;first|omega|exact Nat.le_refl _⟩,⟨by(with_reducible repeat(first|refine zn ?_ _|refine zt ?_|refine zy ?_ _));exact BK177.out⟩,⟨bw⟩⟩
      rw [if_neg c37] at H
      have c37b0:(a0_0 == 5)=false:=beq_eq_false_iff_ne.mpr c37
      have c37b1:(a0_0 != 5)=true:=bne_iff_ne.mpr c37
      by_cases c38:a0_0=6
      ·rw [if_pos c38] at H
       have c38b0:(a0_0 == 6)=true:=beq_iff_eq.mpr c38
       have c38b1:(a0_0 != 6)=false:=bne_eq_false_iff_eq.mpr c38
       clear c38
       have H':=zq.mk H
       clear H
       go_wp2
       go_meet
       case rel=>exact⟨_,((a0_0 == 6)),vr,H',⟨by have:=HJ2.out;first|omega|exact Nat.le_refl _⟩,⟨by(with_reducible repeat(first|refine zn ?_ _|refine zt ?_|refine zy ?_ _));exact BK177.out⟩,⟨bw⟩⟩
      rw [if_neg c38] at H
      have c38b0:(a0_0 == 6)=false:=beq_eq_false_iff_ne.mpr c38
      have c38b1:(a0_0 != 6)=true:=bne_iff_ne.mpr c38
      have H':=zq.mk H
      clear H
      go_wp2
      go_meet
      case rel=>exact⟨_,((a0_0 == 7)),vr,H',⟨by have:=HJ2.out;first|omega|exact Nat.le_refl _⟩,⟨by(with_reducible repeat(first|refine zn ?_ _|refine zt ?_|refine zy ?_ _));exact BK177.out⟩,⟨bw⟩⟩
     case rest=>
      clear HC32
      (try clear c8);(try clear c9);(try clear c9b0);(try clear c9b1);(try clear c18);(try clear c19);(try clear c19b0);(try clear c19b1);(try clear c31);(try clear c31b0);(try clear c31b1);(try clear hcz33_0);(try clear hcz33_1);(try clear hcz33_2);(try clear hcz33_3);(try clear hcz33_4);(try clear hcz33_5);(try clear hcz33_6);(try clear hcz33_7);(try clear hcz35_0);(try clear hcz35_1);(try clear hcz35_2);(try clear hcz35_3);(try clear hcz35_4);(try clear hcz35_5);(try clear hcz35_6);(try clear hcz35_7);(try clear hfz33_0);(try clear hfz33_1);(try clear hfz33_2);(try clear hfz33_3);(try clear hfz33_4);(try clear hfz33_5);(try clear hfz33_6);(try clear hfz33_7);(try clear hfz35_0);(try clear hfz35_1);(try clear hfz35_2);(try clear hfz35_3);(try clear hfz35_4);(try clear hfz35_5);(try clear hfz35_6);(try clear hfz35_7)
      (try clear BK177)
      obtain ⟨kq,x58_31,rfl,HA,HJ31,BK177,HB⟩:=hcut
      cases kq with
      | zero=>exact absurd HA.out (by simp [zc.j1])
      | succ kj31=>
       have H:=HA.out
       clear HA
       simp only [zc.j1] at H
       by_cases c39:x58_31=true
       ·subst c39
        rw [if_pos rfl] at H
        by_cases c40:(l0_7.length:Int)=1
        ·rw [if_pos c40] at H
         have c40b0:((l0_7.length:Int) == 1)=true:=beq_iff_eq.mpr c40
         have c40b1:((l0_7.length:Int) != 1)=false:=bne_eq_false_iff_eq.mpr c40
         clear c40
         by_cases c41:0<(l0_7.length:Int)
         ·rw [if_pos c41] at H
          have c41b0:=decide_eq_true c41
          have c41b1:decide (0<l0_7.length)=true:=decide_eq_true (by omega)
          clear c41
          replace H:=Option.bind_eq_some_iff.mp H
          obtain ⟨t181,A420,H⟩:=H
          replace H:(some t181)=some r:=H
          have A42:=zq.mk A420
          clear A420
          obtain rfl:=Option.some.inj H
          obtain ⟨hcz43_0,hcz43_1,hcz43_2,hcz43_3,hcz43_4,hcz43_5,hcz43_6,hcz43_7,hfz43_0,hfz43_1,hfz43_2,hfz43_3,hfz43_4,hfz43_5,hfz43_6,hfz43_7⟩:=zql BK177.out
          have p180:0≤(0:Int):=(by omega)
          have q180:0<(l0_7.length:Int):=dt
          obtain ⟨ad180,A180_7,c180_7,e180,hx180_0,hx180_1,hx180_2,hx180_3,hx180_4,hx180_5,hx180_6,hx180_7,hl180_7,hi180_7⟩:=zxc HR0_7.out 0 p180 q180
          cases e180
          have qi180:(0<l0_7.length)=True:=eq_true (by omega)
          (try rw [show((0:Int)).toNat=0 from rfl] at hx180_0)
          (try rw [show 0 * 8=0 from rfl] at hx180_0)
          (try rw [Addr.add_zero'] at hx180_0)
          (try rw [show((0:Int)).toNat=0 from rfl] at hx180_1)
          (try rw [show 0 * 8=0 from rfl] at hx180_1)
          (try rw [Addr.add_zero'] at hx180_1)
          (try rw [show((0:Int)).toNat=0 from rfl] at hx180_2)
          (try rw [show 0 * 8=0 from rfl] at hx180_2)
          (try rw [Addr.add_zero'] at hx180_2)
          (try rw [show((0:Int)).toNat=0 from rfl] at hx180_3)
          (try rw [show 0 * 8=0 from rfl] at hx180_3)
          (try rw [Addr.add_zero'] at hx180_3)
          (try rw [show((0:Int)).toNat=0 from rfl] at hx180_4)
          (try rw [show 0 * 8=0 from rfl] at hx180_4)
          (try rw [Addr.add_zero'] at hx180_4)
          (try rw [show((0:Int)).toNat=0 from rfl] at hx180_5)
          (try rw [show 0 * 8=0 from rfl] at hx180_5)
          (try rw [Addr.add_zero'] at hx180_5)
          (try rw [show((0:Int)).toNat=0 from rfl] at hx180_6)
          (try rw [show 0 * 8=0 from rfl] at hx180_6)
          (try rw [Addr.add_zero'] at hx180_6)
          (try rw [show((0:Int)).toNat=0 from rfl] at hx180_7)
          (try rw [show 0 * 8=0 from rfl] at hx180_7)
          (try rw [Addr.add_zero'] at hx180_7)
          replace hx180_0:=(HB.out.cell (World.block_lt_of_cell? w _ hx180_0)).trans hx180_0
          replace hx180_1:=(HB.out.cell (World.block_lt_of_cell? w _ hx180_1)).trans hx180_1
          replace hx180_2:=(HB.out.cell (World.block_lt_of_cell? w _ hx180_2)).trans hx180_2
          replace hx180_3:=(HB.out.cell (World.block_lt_of_cell? w _ hx180_3)).trans hx180_3
          replace hx180_4:=(HB.out.cell (World.block_lt_of_cell? w _ hx180_4)).trans hx180_4
          replace hx180_5:=(HB.out.cell (World.block_lt_of_cell? w _ hx180_5)).trans hx180_5
          replace hx180_6:=(HB.out.cell (World.block_lt_of_cell? w _ hx180_6)).trans hx180_6
          replace hx180_7:=(HB.out.cell (World.block_lt_of_cell? w _ hx180_7)).trans hx180_7
          have HR180_7:=zq.mk hi180_7
          have HC180_7:=zq.mk hl180_7
          clear hi180_7 hl180_7
          replace p180:=eq_true p180
          replace q180:=eq_true q180
          go_wp2_with (first|(go_at_call 51;(with_reducible refine(ih kj31 (by have:=HJ2.out;have:=HJ31.out;omega) ((zg l0_7 0).f0) ((zg l0_7 0).f1.f0) ((zg l0_7 0).f1.f1) ((zg l0_7 0).f1.f2) ((zg l0_7 0).f2) ((zg l0_7 0).f3) ((zg l0_7 0).f4) _ _ ((zg l0_7 0).f5) a1 t181 _ ?side1 ?side2 A42.out).mono ?_);(case side1=>exact Kd.cu (Kd.zqe HR180_7.out HB.out));(case side2=>exact HC180_7.out);rintro e w44 ⟨rfl,hb⟩;replace BK177:=zq.mk (zf (g:=gb177) (o:=.cells #[.int .i64 a0_0,.int .i64 a0_1,.int .i64 a0_2,.string a0_3,.string a0_4,.string a0_5,.int .i64 a0_6,.slice (some ad180) l0_7.length c0_7] 33 (0,0)) (up BK177.out) hb);replace HB:=zq.mk (zb bw hb);(try clear hb);(try clear hb2);(try clear hk);(try clear hi)))
          go_ret
          exact⟨by first|rfl|(simp [zk,zx] <;> rfl)|(simp [*,zk,zx] <;> rfl),bw⟩
         rw [if_neg c41] at H
         exact absurd H (by simp)
        rw [if_neg c40] at H
        have c40b0:((l0_7.length:Int) == 1)=false:=beq_eq_false_iff_ne.mpr c40
        have c40b1:((l0_7.length:Int) != 1)=true:=bne_iff_ne.mpr c40
        obtain rfl:=Option.some.inj H
        obtain ⟨hcz45_0,hcz45_1,hcz45_2,hcz45_3,hcz45_4,hcz45_5,hcz45_6,hcz45_7,hfz45_0,hfz45_1,hfz45_2,hfz45_3,hfz45_4,hfz45_5,hfz45_6,hfz45_7⟩:=zql BK177.out
        go_wp2
        go_ret
        exact⟨by first|rfl|(simp [zk,zx] <;> rfl)|(simp [*,zk,zx] <;> rfl),bw⟩
       replace c39:=Bool.eq_false_iff.mpr c39
       subst c39
       rw [if_neg (show ¬ (false=true) by decide)] at H
       have HC46:=zq.mk H
       clear H
       go_upto_if 75 with (fail)
       go_cut [75] (fun v75 wc => ∃ (kq:Nat) (x75_45:Bool),v75 = .bool x75_45∧zq (zc.j2 kq a1 x75_45 a0_0 a0_1 a0_2 a0_3 a0_4 a0_5 a0_6 l0_7=some r)∧zq (kq≤kj31)∧zq (wc.heap[gb177]? = some (.cells #[.int .i64 a0_0,.int .i64 a0_1,.int .i64 a0_2,.string a0_3,.string a0_4,.string a0_5,.int .i64 a0_6,(.slice A0_7 l0_7.length c0_7)] 33 (0,0)))∧zq (Below w.heap.size w wc))
       case first=>
        have H:=HC46.out
        clear HC46
        by_cases c47:a0_0=8
        ·rw [if_pos c47] at H
         have c47b0:(a0_0 == 8)=true:=beq_iff_eq.mpr c47
         have c47b1:(a0_0 != 8)=false:=bne_eq_false_iff_eq.mpr c47
         clear c47
         (first|rw [c47b0]|(simp only [zqw,zqx];rw [c47b0])|skip)
         have H':=zq.mk H
         clear H
         go_wp2
         go_meet
         case rel=>exact⟨_,((a0_0 == 8)),vr,H',⟨by have:=HJ2.out;have:=HJ31.out;first|omega|exact Nat.le_refl _⟩,⟨by(with_reducible repeat(first|refine zn ?_ _|refine zt ?_|refine zy ?_ _));exact BK177.out⟩,⟨bw⟩⟩
        rw [if_neg c47] at H
        have c47b0:(a0_0 == 8)=false:=beq_eq_false_iff_ne.mpr c47
        have c47b1:(a0_0 != 8)=true:=bne_iff_ne.mpr c47
        (first|rw [c47b0]|(simp only [zqw,zqx];rw [c47b0])|skip)
        by_cases c48:a0_0=9
        ·rw [if_pos c48] at H
         have c48b0:(a0_0 == 9)=true:=beq_iff_eq.mpr c48
         have c48b1:(a0_0 != 9)=false:=bne_eq_false_iff_eq.mpr c48
         clear c48
         have H':=zq.mk H
         clear H
         go_wp2
         go_meet
         case rel=>exact⟨_,((a0_0 == 9)),vr,H',⟨by have:=HJ2.out;have:=HJ31.out;first|omega|exact Nat.le_refl _⟩,⟨by(with_reducible repeat(first|refine zn ?_ _|refine zt ?_|refine zy ?_ _));exact BK177.out⟩,⟨bw⟩⟩
        rw [if_neg c48] at H
        have c48b0:(a0_0 == 9)=false:=beq_eq_false_iff_ne.mpr c48
        have c48b1:(a0_0 != 9)=true:=bne_iff_ne.mpr c48
        by_cases c49:a0_0=10
        ·rw [if_pos c49] at H
         have c49b0:(a0_0 == 10)=true:=beq_iff_eq.mpr c49
         have c49b1:(a0_0 != 10)=false:=bne_eq_false_iff_eq.mpr c49
         clear c49
         have H':=zq.mk H
         clear H
         go_wp2
         go_meet
         case rel=>exact⟨_,((a0_0 == 10)),vr,H',⟨by have:=HJ2.out;have:=HJ31.out;first|omega|exact Nat.le_refl _⟩,⟨by(with_reducible repeat(first|refine zn ?_ _|refine zt ?_|refine zy ?_ _));exact BK177.out⟩,⟨bw⟩⟩
        rw [if_neg c49] at H
        have c49b0:(a0_0 == 10)=false:=beq_eq_false_iff_ne.mpr c49
        have c49b1:(a0_0 != 10)=true:=bne_iff_ne.mpr c49
        by_cases c50:a0_0=11
        ·rw [if_pos c50] at H
         have c50b0:(a0_0 == 11)=true:=beq_iff_eq.mpr c50
         have c50b1:(a0_0 != 11)=false:=bne_eq_false_iff_eq.mpr c50
         clear c50
         have H':=zq.mk H
         clear H
         go_wp2
         go_meet
         case rel=>exact⟨_,((a0_0 == 11)),vr,H',⟨by have:=HJ2.out;have:=HJ31.out;first|omega|exact Nat.le_refl _⟩,⟨by(with_reducible repeat(first|refine zn ?_ _|refine zt ?_|refine zy ?_ _));exact BK177.out⟩,⟨bw⟩⟩
        rw [if_neg c50] at H
        have c50b0:(a0_0 == 11)=false:=beq_eq_false_iff_ne.mpr c50
        have c50b1:(a0_0 != 11)=true:=bne_iff_ne.mpr c50
        by_cases c51:a0_0=12
        ·rw [if_pos c51] at H
         have c51b0:(a0_0 == 12)=true:=beq_iff_eq.mpr c51
         have c51b1:(a0_0 != 12)=false:=bne_eq_false_iff_eq.mpr c51
         clear c51
         have H':=zq.mk H
         clear H
         go_wp2
         go_meet
         case rel=>exact⟨_,((a0_0 == 12)),vr,H',⟨by have:=HJ2.out;have:=HJ31.out;first|omega|exact Nat.le_refl _⟩,⟨by(with_reducible repeat(first|refine zn ?_ _|refine zt ?_|refine zy ?_ _));exact BK177.out⟩,⟨bw⟩⟩
        rw [if_neg c51] at H
        have c51b0:(a0_0 == 12)=false:=beq_eq_false_iff_ne.mpr c51
        have c51b1:(a0_0 != 12)=true:=bne_iff_ne.mpr c51
        by_cases c52:a0_0=13
        ·rw [if_pos c52] at H
         have c52b0:(a0_0 == 13)=true:=beq_iff_eq.mpr c52
         have c52b1:(a0_0 != 13)=false:=bne_eq_false_iff_eq.mpr c52
         clear c52
         have H':=zq.mk H
         clear H
         go_wp2
         go_meet
         case rel=>exact⟨_,((a0_0 == 13)),vr,H',⟨by have:=HJ2.out;have:=HJ31.out;first|omega|exact Nat.le_refl _⟩,⟨by(with_reducible repeat(first|refine zn ?_ _|refine zt ?_|refine zy ?_ _));exact BK177.out⟩,⟨bw⟩⟩
        rw [if_neg c52] at H
        have c52b0:(a0_0 == 13)=false:=beq_eq_false_iff_ne.mpr c52
        have c52b1:(a0_0 != 13)=true:=bne_iff_ne.mpr c52
        by_cases c53:a0_0=14
        ·rw [if_pos c53] at H
         have c53b0:(a0_0 == 14)=true:=beq_iff_eq.mpr c53
         have c53b1:(a0_0 != 14)=false:=bne_eq_false_iff_eq.mpr c53
         clear c53
         have H':=zq.mk H
         clear H
         go_wp2
         go_meet
         case rel=>exact⟨_,((a0_0 == 14)),vr,H',⟨by have:=HJ2.out;have:=HJ31.out;first|omega|exact Nat.le_refl _⟩,⟨by(with_reducible repeat(first|refine zn ?_ _|refine zt ?_|refine zy ?_ _));exact BK177.out⟩,⟨bw⟩⟩
        rw [if_neg c53] at H
        have c53b0:(a0_0 == 14)=false:=beq_eq_false_iff_ne.mpr c53
        have c53b1:(a0_0 != 14)=true:=bne_iff_ne.mpr c53
        by_cases c54:a0_0=15
        ·rw [if_pos c54] at H
         have c54b0:(a0_0 == 15)=true:=beq_iff_eq.mpr c54
         have c54b1:(a0_0 != 15)=false:=bne_eq_false_iff_eq.mpr c54
         clear c54
         have H':=zq.mk H
         clear H
         go_wp2
         go_meet
         case rel=>exact⟨_,((a0_0 == 15)),vr,H',⟨by have:=HJ2.out;have:=HJ31.out;first|omega|exact Nat.le_refl _⟩,⟨by(with_reducible repeat(first|refine zn ?_ _|refine zt ?_|refine zy ?_ _));exact BK177.out⟩,⟨bw⟩⟩
        rw [if_neg c54] at H
        have c54b0:(a0_0 == 15)=false:=beq_eq_false_iff_ne.mpr c54
        have c54b1:(a0_0 != 15)=true:=bne_iff_ne.mpr c54
        by_cases c55:a0_0=16
        ·rw [if_pos c55] at H
         have c55b0:(a0_0 == 16)=true:=beq_iff_eq.mpr c55
         have c55b1:(a0_0 != 16)=false:=bne_eq_false_iff_eq.mpr c55
         clear c55
         have H':=zq.mk H
         clear H
         go_wp2
         go_meet
         case rel=>exact⟨_,((a0_0 == 16)),vr,H',⟨by have:=HJ2.out;have:=HJ31.out;first|omega|exact Nat.le_refl _⟩,⟨by(with_reducible repeat(first|refine zn ?_ _|refine zt ?_|refine zy ?_ _));exact BK177.out⟩,⟨bw⟩⟩
        rw [if_neg c55] at H
        have c55b0:(a0_0 == 16)=false:=beq_eq_false_iff_ne.mpr c55
        have c55b1:(a0_0 != 16)=true:=bne_iff_ne.mpr c55
        by_cases c56:a0_0=17
        ·rw [if_pos c56] at H
         have c56b0:(a0_0 == 17)=true:=beq_iff_eq.mpr c56
         have c56b1:(a0_0 != 17)=false:=bne_eq_false_iff_eq.mpr c56
         clear c56
         have H':=zq.mk H
         clear H
         go_wp2
         go_meet
         case rel=>exact⟨_,((a0_0 == 17)),vr,H',⟨by have:=HJ2.out;have:=HJ31.out;first|omega|exact Nat.le_refl _⟩,⟨by(with_reducible repeat(first|refine zn ?_ _|refine zt ?_|refine zy ?_ _));exact BK177.out⟩,⟨bw⟩⟩
        rw [if_neg c56] at H
        have c56b0:(a0_0 == 17)=false:=beq_eq_false_iff_ne.mpr c56
        have c56b1:(a0_0 != 17)=true:=bne_iff_ne.mpr c56
        by_cases c57:a0_0=18
        ·rw [if_pos c57] at H
         have c57b0:(a0_0 == 18)=true:=beq_iff_eq.mpr c57
         have c57b1:(a0_0 != 18)=false:=bne_eq_false_iff_eq.mpr c57
         clear c57
         have H':=zq.mk H
         clear H
         go_wp2
         go_meet
         case rel=>exact⟨_,((a0_0 == 18)),vr,H',⟨by have:=HJ2.out;have:=HJ31.out;first|omega|exact Nat.le_refl _⟩,⟨by(with_reducible repeat(first|refine zn ?_ _|refine zt ?_|refine zy ?_ _));exact BK177.out⟩,⟨bw⟩⟩
        rw [if_neg c57] at H
        have c57b0:(a0_0 == 18)=false:=beq_eq_false_iff_ne.mpr c57
        have c57b1:(a0_0 != 18)=true:=bne_iff_ne.mpr c57
        by_cases c58:a0_0=19
        ·rw [if_pos c58] at H
         have c58b0:(a0_0 == 19)=true:=beq_iff_eq.mpr c58
         have c58b1:(a0_0 != 19)=false:=bne_eq_false_iff_eq.mpr c58
         clear c58
         have H':=zq.mk H
         clear H
         go_wp2
         go_meet
         case rel=>exact⟨_,((a0_0 == 19)),vr,H',⟨by have:=HJ2.out;have:=HJ31.out;first|omega|exact Nat.le_refl _⟩,⟨by(with_reducible repeat(first|refine zn ?_ _|refine zt ?_|refine zy ?_ _));exact BK177.out⟩,⟨bw⟩⟩
        rw [if_neg c58] at H
        have c58b0:(a0_0 == 19)=false:=beq_eq_false_iff_ne.mpr c58
        have c58b1:(a0_0 != 19)=true:=bne_iff_ne.mpr c58
        have H':=zq.mk H
        clear H
        go_wp2
        go_meet
        case rel=>exact⟨_,((a0_0 == 20)),vr,H',⟨by have:=HJ2.out;have:=HJ31.out;first|omega|exact Nat.le_refl _⟩,⟨by(with_reducible repeat(first|refine zn ?_ _|refine zt ?_|refine zy ?_ _));exact BK177.out⟩,⟨bw⟩⟩
       case rest=>
        clear HC46
        (try clear c8);(try clear c9);(try clear c9b0);(try clear c9b1);(try clear c18);(try clear c19);(try clear c19b0);(try clear c19b1);(try clear c31);(try clear c31b0);(try clear c31b1);(try clear c39);(try clear hcz33_0);(try clear hcz33_1);(try clear hcz33_2);(try clear hcz33_3);(try clear hcz33_4);(try clear hcz33_5);(try clear hcz33_6);(try clear hcz33_7);(try clear hcz35_0);(try clear hcz35_1);(try clear hcz35_2);(try clear hcz35_3);(try clear hcz35_4);(try clear hcz35_5);(try clear hcz35_6);(try clear hcz35_7);(try clear hfz33_0);(try clear hfz33_1);(try clear hfz33_2);(try clear hfz33_3);(try clear hfz33_4);(try clear hfz33_5);(try clear hfz33_6);(try clear hfz33_7);(try clear hfz35_0);(try clear hfz35_1);(try clear hfz35_2);(try clear hfz35_3);(try clear hfz35_4);(try clear hfz35_5);(try clear hfz35_6);(try clear hfz35_7)
        (try clear BK177)
        obtain ⟨kq,x75_45,rfl,HA,HJ45,BK177,HB⟩:=hcut
        cases kq with
        | zero=>exact absurd HA.out (by simp [zc.j2])
        | succ kj45=>
         have H:=HA.out
         clear HA
         simp only [zc.j2] at H
         by_cases c59:x75_45=true
         ·subst c59
          rw [if_pos rfl] at H
          by_cases c60:(l0_7.length:Int)=2
          ·rw [if_pos c60] at H
           have c60b0:((l0_7.length:Int) == 2)=true:=beq_iff_eq.mpr c60
           have c60b1:((l0_7.length:Int) != 2)=false:=bne_eq_false_iff_eq.mpr c60
           clear c60
           by_cases c61:0<(l0_7.length:Int)
           ·rw [if_pos c61] at H
            have c61b0:=decide_eq_true c61
            have c61b1:decide (0<l0_7.length)=true:=decide_eq_true (by omega)
            clear c61
            replace H:=Option.bind_eq_some_iff.mp H
            obtain ⟨t183,A620,H⟩:=H
            replace H:(if t183=true then(if 1<(l0_7.length:Int) then((zc.f kj45 ((zg l0_7 1).f0) ((zg l0_7 1).f1.f0) ((zg l0_7 1).f1.f1) ((zg l0_7 1).f1.f2) ((zg l0_7 1).f2) ((zg l0_7 1).f3) ((zg l0_7 1).f4) ((zg l0_7 1).f5) a1).bind fun t185=>(some t185)) else (none)) else (some false))=some r:=H
            have A62:=zq.mk A620
            clear A620
            by_cases c63:t183=true
            ·subst c63
             rw [if_pos rfl] at H
             by_cases c64:1<(l0_7.length:Int)
             ·rw [if_pos c64] at H
              have c64b0:=decide_eq_true c64
              have c64b1:decide (1<l0_7.length)=true:=decide_eq_true (by omega)
              clear c64
              replace H:=Option.bind_eq_some_iff.mp H
              obtain ⟨t185,A650,H⟩:=H
              replace H:(some t185)=some r:=H
              have A65:=zq.mk A650
              clear A650
              obtain rfl:=Option.some.inj H
              obtain ⟨hcz66_0,hcz66_1,hcz66_2,hcz66_3,hcz66_4,hcz66_5,hcz66_6,hcz66_7,hfz66_0,hfz66_1,hfz66_2,hfz66_3,hfz66_4,hfz66_5,hfz66_6,hfz66_7⟩:=zql BK177.out
              have p182:0≤(0:Int):=(by omega)
              have q182:0<(l0_7.length:Int):=dt
              obtain ⟨ad182,A182_7,c182_7,e182,hx182_0,hx182_1,hx182_2,hx182_3,hx182_4,hx182_5,hx182_6,hx182_7,hl182_7,hi182_7⟩:=zxc HR0_7.out 0 p182 q182
              cases e182
              have qi182:(0<l0_7.length)=True:=eq_true (by omega)
              (try rw [show((0:Int)).toNat=0 from rfl] at hx182_0)
              (try rw [show 0 * 8=0 from rfl] at hx182_0)
              (try rw [Addr.add_zero'] at hx182_0)
              (try rw [show((0:Int)).toNat=0 from rfl] at hx182_1)
              (try rw [show 0 * 8=0 from rfl] at hx182_1)
              (try rw [Addr.add_zero'] at hx182_1)
              (try rw [show((0:Int)).toNat=0 from rfl] at hx182_2)
              (try rw [show 0 * 8=0 from rfl] at hx182_2)
              (try rw [Addr.add_zero'] at hx182_2)
              (try rw [show((0:Int)).toNat=0 from rfl] at hx182_3)
              (try rw [show 0 * 8=0 from rfl] at hx182_3)
              (try rw [Addr.add_zero'] at hx182_3)
              (try rw [show((0:Int)).toNat=0 from rfl] at hx182_4)
              (try rw [show 0 * 8=0 from rfl] at hx182_4)
              (try rw [Addr.add_zero'] at hx182_4)
              (try rw [show((0:Int)).toNat=0 from rfl] at hx182_5)
              (try rw [show 0 * 8=0 from rfl] at hx182_5)
              (try rw [Addr.add_zero'] at hx182_5)
              (try rw [show((0:Int)).toNat=0 from rfl] at hx182_6)
              (try rw [show 0 * 8=0 from rfl] at hx182_6)
              (try rw [Addr.add_zero'] at hx182_6)
              (try rw [show((0:Int)).toNat=0 from rfl] at hx182_7)
              (try rw [show 0 * 8=0 from rfl] at hx182_7)
              (try rw [Addr.add_zero'] at hx182_7)
              replace hx182_0:=(HB.out.cell (World.block_lt_of_cell? w _ hx182_0)).trans hx182_0
              replace hx182_1:=(HB.out.cell (World.block_lt_of_cell? w _ hx182_1)).trans hx182_1
              replace hx182_2:=(HB.out.cell (World.block_lt_of_cell? w _ hx182_2)).trans hx182_2
              replace hx182_3:=(HB.out.cell (World.block_lt_of_cell? w _ hx182_3)).trans hx182_3
              replace hx182_4:=(HB.out.cell (World.block_lt_of_cell? w _ hx182_4)).trans hx182_4
              replace hx182_5:=(HB.out.cell (World.block_lt_of_cell? w _ hx182_5)).trans hx182_5
              replace hx182_6:=(HB.out.cell (World.block_lt_of_cell? w _ hx182_6)).trans hx182_6
              replace hx182_7:=(HB.out.cell (World.block_lt_of_cell? w _ hx182_7)).trans hx182_7
              have HR182_7:=zq.mk hi182_7
              have HC182_7:=zq.mk hl182_7
              clear hi182_7 hl182_7
              replace p182:=eq_true p182
              replace q182:=eq_true q182
              go_wp2_with (first|(go_at_call 51;(with_reducible refine(ih kj45 (by have:=HJ2.out;have:=HJ31.out;have:=HJ45.out;omega) ((zg l0_7 0).f0) ((zg l0_7 0).f1.f0) ((zg l0_7 0).f1.f1) ((zg l0_7 0).f1.f2) ((zg l0_7 0).f2) ((zg l0_7 0).f3) ((zg l0_7 0).f4) _ _ ((zg l0_7 0).f5) a1 true _ ?side1 ?side2 A62.out).mono ?_);(case side1=>exact Kd.cu (Kd.zqe HR182_7.out HB.out));(case side2=>exact HC182_7.out);rintro e w67 ⟨rfl,hb⟩;replace BK177:=zq.mk (zf (g:=gb177) (o:=.cells #[.int .i64 a0_0,.int .i64 a0_1,.int .i64 a0_2,.string a0_3,.string a0_4,.string a0_5,.int .i64 a0_6,.slice (some ad182) l0_7.length c0_7] 33 (0,0)) (up BK177.out) hb);replace HB:=zq.mk (zb bw hb);(try clear hb);(try clear hb2);(try clear hk);(try clear hi);obtain ⟨hcz68_0,hcz68_1,hcz68_2,hcz68_3,hcz68_4,hcz68_5,hcz68_6,hcz68_7,hfz68_0,hfz68_1,hfz68_2,hfz68_3,hfz68_4,hfz68_5,hfz68_6,hfz68_7⟩:=zql BK177.out;have p184:0≤(1:Int):=(by omega);have q184:1<(l0_7.length:Int):=dt;obtain ⟨ad184,A184_7,c184_7,e184,hx184_0,hx184_1,hx184_2,hx184_3,hx184_4,hx184_5,hx184_6,hx184_7,hl184_7,hi184_7⟩:=zxc HR0_7.out 1 p184 q184;obtain rfl:ad182=ad184:=(by injection e184);(try simp only [show(1:Int).toNat=1 from rfl,Nat.reduceMul,Nat.reduceEqDiff,Go.Addr.add, ↓reduceIte] at hx184_0);(try simp only [show(1:Int).toNat=1 from rfl,Nat.reduceMul,Nat.reduceEqDiff,Go.Addr.add, ↓reduceIte] at hx184_1);(try simp only [show(1:Int).toNat=1 from rfl,Nat.reduceMul,Nat.reduceEqDiff,Go.Addr.add, ↓reduceIte] at hx184_2);(try simp only [show(1:Int).toNat=1 from rfl,Nat.reduceMul,Nat.reduceEqDiff,Go.Addr.add, ↓reduceIte] at hx184_3);(try simp only [show(1:Int).toNat=1 from rfl,Nat.reduceMul,Nat.reduceEqDiff,Go.Addr.add, ↓reduceIte] at hx184_4);(try simp only [show(1:Int).toNat=1 from rfl,Nat.reduceMul,Nat.reduceEqDiff,Go.Addr.add, ↓reduceIte] at hx184_5);(try simp only [show(1:Int).toNat=1 from rfl,Nat.reduceMul,Nat.reduceEqDiff,Go.Addr.add, ↓reduceIte] at hx184_6);(try simp only [show(1:Int).toNat=1 from rfl,Nat.reduceMul,Nat.reduceEqDiff,Go.Addr.add, ↓reduceIte] at hx184_7);have qi184:(1<l0_7.length)=True:=eq_true (by omega);(try rw [show((1:Int)).toNat=1 from rfl] at hx184_0);(try rw [show 1 * 8=8 from rfl] at hx184_0);(try rw [show((1:Int)).toNat=1 from rfl] at hx184_1);(try rw [show 1 * 8=8 from rfl] at hx184_1);(try rw [show((1:Int)).toNat=1 from rfl] at hx184_2);(try rw [show 1 * 8=8 from rfl] at hx184_2);(try rw [show((1:Int)).toNat=1 from rfl] at hx184_3);(try rw [show 1 * 8=8 from rfl] at hx184_3);(try rw [show((1:Int)).toNat=1 from rfl] at hx184_4);(try rw [show 1 * 8=8 from rfl] at hx184_4);(try rw [show((1:Int)).toNat=1 from rfl] at hx184_5);(try rw [show 1 * 8=8 from rfl] at hx184_5);(try rw [show((1:Int)).toNat=1 from rfl] at hx184_6);(try rw [show 1 * 8=8 from rfl] at hx184_6);(try rw [show((1:Int)).toNat=1 from rfl] at hx184_7);(try rw [show 1 * 8=8 from rfl] at hx184_7);replace hx184_0:=(HB.out.cell (World.block_lt_of_cell? w _ hx184_0)).trans hx184_0;replace hx184_1:=(HB.out.cell (World.block_lt_of_cell? w _ hx184_1)).trans hx184_1;replace hx184_2:=(HB.out.cell (World.block_lt_of_cell? w _ hx184_2)).trans hx184_2;replace hx184_3:=(HB.out.cell (World.block_lt_of_cell? w _ hx184_3)).trans hx184_3;replace hx184_4:=(HB.out.cell (World.block_lt_of_cell? w _ hx184_4)).trans hx184_4;replace hx184_5:=(HB.out.cell (World.block_lt_of_cell? w _ hx184_5)).trans hx184_5;replace hx184_6:=(HB.out.cell (World.block_lt_of_cell? w _ hx184_6)).trans hx184_6;replace hx184_7:=(HB.out.cell (World.block_lt_of_cell? w _ hx184_7)).trans hx184_7;have HR184_7:=zq.mk hi184_7;have HC184_7:=zq.mk hl184_7;clear hi184_7 hl184_7;replace p184:=eq_true p184;replace q184:=eq_true q184)|(go_at_call 51;(with_reducible refine(ih kj45 (by have:=HJ2.out;have:=HJ31.out;have:=HJ45.out;omega) ((zg l0_7 1).f0) ((zg l0_7 1).f1.f0) ((zg l0_7 1).f1.f1) ((zg l0_7 1).f1.f2) ((zg l0_7 1).f2) ((zg l0_7 1).f3) ((zg l0_7 1).f4) _ _ ((zg l0_7 1).f5) a1 t185 _ ?side1 ?side2 A65.out).mono ?_);(case side1=>exact Kd.cu (Kd.zqe HR184_7.out HB.out));(case side2=>exact HC184_7.out);rintro e w69 ⟨rfl,hb⟩;replace BK177:=zq.mk (zf (g:=gb177) (o:=.cells #[.int .i64 a0_0,.int .i64 a0_1,.int .i64 a0_2,.string a0_3,.string a0_4,.string a0_5,.int .i64 a0_6,.slice (some ad182) l0_7.length c0_7] 33 (0,0)) (up BK177.out) hb);replace HB:=zq.mk (zb bw hb);(try clear hb);(try clear hb2);(try clear hk);(try clear hi)))
              go_ret
              exact⟨by first|rfl|(simp [zk,zx] <;> rfl)|(simp [*,zk,zx] <;> rfl),bw⟩
             rw [if_neg c64] at H
             exact absurd H (by simp)
            replace c63:=Bool.eq_false_iff.mpr c63
            subst c63
            rw [if_neg (show ¬ (false=true) by decide)] at H
            obtain rfl:=Option.some.inj H
            obtain ⟨hcz70_0,hcz70_1,hcz70_2,hcz70_3,hcz70_4,hcz70_5,hcz70_6,hcz70_7,hfz70_0,hfz70_1,hfz70_2,hfz70_3,hfz70_4,hfz70_5,hfz70_6,hfz70_7⟩:=zql BK177.out
            have p182:0≤(0:Int):=(by omega)
            have q182:0<(l0_7.length:Int):=dt
            obtain ⟨ad182,A182_7,c182_7,e182,hx182_0,hx182_1,hx182_2,hx182_3,hx182_4,hx182_5,hx182_6,hx182_7,hl182_7,hi182_7⟩:=zxc HR0_7.out 0 p182 q182
            cases e182
            have qi182:(0<l0_7.length)=True:=eq_true (by omega)
            (try rw [show((0:Int)).toNat=0 from rfl] at hx182_0)
            (try rw [show 0 * 8=0 from rfl] at hx182_0)
            (try rw [Addr.add_zero'] at hx182_0)
            (try rw [show((0:Int)).toNat=0 from rfl] at hx182_1)
            (try rw [show 0 * 8=0 from rfl] at hx182_1)
            (try rw [Addr.add_zero'] at hx182_1)
            (try rw [show((0:Int)).toNat=0 from rfl] at hx182_2)
            (try rw [show 0 * 8=0 from rfl] at hx182_2)
            (try rw [Addr.add_zero'] at hx182_2)
            (try rw [show((0:Int)).toNat=0 from rfl] at hx182_3)
            (try rw [show 0 * 8=0 from rfl] at hx182_3)
            (try rw [Addr.add_zero'] at hx182_3)
            (try rw [show((0:Int)).toNat=0 from rfl] at hx182_4)
            (try rw [show 0 * 8=0 from rfl] at hx182_4)
            (try rw [Addr.add_zero'] at hx182_4)
            (try rw [show((0:Int)).toNat=0 from rfl] at hx182_5)
            (try rw [show 0 * 8=0 from rfl] at hx182_5)
            (try rw [Addr.add_zero'] at hx182_5)
            (try rw [show((0:Int)).toNat=0 from rfl] at hx182_6)
            (try rw [show 0 * 8=0 from rfl] at hx182_6)
            (try rw [Addr.add_zero'] at hx182_6)
            (try rw [show((0:Int)).toNat=0 from rfl] at hx182_7)
            (try rw [show 0 * 8=0 from rfl] at hx182_7)
            (try rw [Addr.add_zero'] at hx182_7)
            replace hx182_0:=(HB.out.cell (World.block_lt_of_cell? w _ hx182_0)).trans hx182_0
            replace hx182_1:=(HB.out.cell (World.block_lt_of_cell? w _ hx182_1)).trans hx182_1
            replace hx182_2:=(HB.out.cell (World.block_lt_of_cell? w _ hx182_2)).trans hx182_2
            replace hx182_3:=(HB.out.cell (World.block_lt_of_cell? w _ hx182_3)).trans hx182_3
            replace hx182_4:=(HB.out.cell (World.block_lt_of_cell? w _ hx182_4)).trans hx182_4
            replace hx182_5:=(HB.out.cell (World.block_lt_of_cell? w _ hx182_5)).trans hx182_5
            replace hx182_6:=(HB.out.cell (World.block_lt_of_cell? w _ hx182_6)).trans hx182_6
            replace hx182_7:=(HB.out.cell (World.block_lt_of_cell? w _ hx182_7)).trans hx182_7
            have HR182_7:=zq.mk hi182_7
            have HC182_7:=zq.mk hl182_7
            clear hi182_7 hl182_7
            replace p182:=eq_true p182
            replace q182:=eq_true q182
            go_wp2_with (first|(go_at_call 51;(with_reducible refine(ih kj45 (by have:=HJ2.out;have:=HJ31.out;have:=HJ45.out;omega) ((zg l0_7 0).f0) ((zg l0_7 0).f1.f0) ((zg l0_7 0).f1.f1) ((zg l0_7 0).f1.f2) ((zg l0_7 0).f2) ((zg l0_7 0).f3) ((zg l0_7 0).f4) _ _ ((zg l0_7 0).f5) a1 false _ ?side1 ?side2 A62.out).mono ?_);(case side1=>exact Kd.cu (Kd.zqe HR182_7.out HB.out));(case side2=>exact HC182_7.out);rintro e w71 ⟨rfl,hb⟩;replace BK177:=zq.mk (zf (g:=gb177) (o:=.cells #[.int .i64 a0_0,.int .i64 a0_1,.int .i64 a0_2,.string a0_3,.string a0_4,.string a0_5,.int .i64 a0_6,.slice (some ad182) l0_7.length c0_7] 33 (0,0)) (up BK177.out) hb);replace HB:=zq.mk (zb bw hb);(try clear hb);(try clear hb2);(try clear hk);(try clear hi)))
            go_ret
            exact⟨by first|rfl|(simp [zk,zx] <;> rfl)|(simp [*,zk,zx] <;> rfl),bw⟩
           rw [if_neg c61] at H
           exact absurd H (by simp)
          rw [if_neg c60] at H
          have c60b0:((l0_7.length:Int) == 2)=false:=beq_eq_false_iff_ne.mpr c60
          have c60b1:((l0_7.length:Int) != 2)=true:=bne_iff_ne.mpr c60
          obtain rfl:=Option.some.inj H
          obtain ⟨hcz72_0,hcz72_1,hcz72_2,hcz72_3,hcz72_4,hcz72_5,hcz72_6,hcz72_7,hfz72_0,hfz72_1,hfz72_2,hfz72_3,hfz72_4,hfz72_5,hfz72_6,hfz72_7⟩:=zql BK177.out
          go_wp2
          go_ret
          exact⟨by first|rfl|(simp [zk,zx] <;> rfl)|(simp [*,zk,zx] <;> rfl),bw⟩
         replace c59:=Bool.eq_false_iff.mpr c59
         subst c59
         rw [if_neg (show ¬ (false=true) by decide)] at H
         obtain rfl:=Option.some.inj H
         go_wp2
         go_ret
         exact⟨by first|rfl|(simp [zk,zx] <;> rfl)|(simp [*,zk,zx] <;> rfl),bw⟩
    rw [if_neg c31] at H
    have c31b0:(a0_6 == 0)=false:=beq_eq_false_iff_ne.mpr c31
    have c31b1:(a0_6 != 0)=true:=bne_iff_ne.mpr c31
    obtain rfl:=Option.some.inj H
    obtain ⟨hcz73_0,hcz73_1,hcz73_2,hcz73_3,hcz73_4,hcz73_5,hcz73_6,hcz73_7,hfz73_0,hfz73_1,hfz73_2,hfz73_3,hfz73_4,hfz73_5,hfz73_6,hfz73_7⟩:=zql BK177.out
    go_wp2_with (first|((with_reducible refine zs (f:=48) rfl ?_);refine qo (some 33) rfl rfl Tryd.func48 (by kernel_rfl) rfl #[.agg #[.int .i64 a0_1,.int .i64 a0_2,.string a0_3]] rfl gs ?_;(with_reducible refine(zqb.calls a0_1 a0_2 a0_3 true _ A17.out).mono ?_);rintro e w74 ⟨rfl,hb⟩;refine⟨_,rfl,?_⟩;replace BK177:=zq.mk (zf (g:=gb177) (o:=.cells #[.int .i64 a0_0,.int .i64 a0_1,.int .i64 a0_2,.string a0_3,.string a0_4,.string a0_5,.int .i64 a0_6,.slice A0_7 l0_7.length c0_7] 33 (0,0)) (up BK177.out) hb);replace HB:=zq.mk (zb bw hb);(try clear hb);(try clear hb2);(try clear hk);(try clear hi);obtain ⟨hcz75_0,hcz75_1,hcz75_2,hcz75_3,hcz75_4,hcz75_5,hcz75_6,hcz75_7,hfz75_0,hfz75_1,hfz75_2,hfz75_3,hfz75_4,hfz75_5,hfz75_6,hfz75_7⟩:=zql BK177.out))
    go_ret
    exact⟨by first|rfl|(simp [zk,zx] <;> rfl)|(simp [*,zk,zx] <;> rfl),bw⟩
   replace c18:=Bool.eq_false_iff.mpr c18
   subst c18
   rw [if_neg (show ¬ (false=true) by decide)] at H
   obtain rfl:=Option.some.inj H
   obtain ⟨hcz76_0,hcz76_1,hcz76_2,hcz76_3,hcz76_4,hcz76_5,hcz76_6,hcz76_7,hfz76_0,hfz76_1,hfz76_2,hfz76_3,hfz76_4,hfz76_5,hfz76_6,hfz76_7⟩:=zql BK177.out
   go_wp2_with (first|((with_reducible refine zs (f:=48) rfl ?_);refine qo (some 33) rfl rfl Tryd.func48 (by kernel_rfl) rfl #[.agg #[.int .i64 a0_1,.int .i64 a0_2,.string a0_3]] rfl gs ?_;(with_reducible refine(zqb.calls a0_1 a0_2 a0_3 false _ A17.out).mono ?_);rintro e w77 ⟨rfl,hb⟩;refine⟨_,rfl,?_⟩;replace BK177:=zq.mk (zf (g:=gb177) (o:=.cells #[.int .i64 a0_0,.int .i64 a0_1,.int .i64 a0_2,.string a0_3,.string a0_4,.string a0_5,.int .i64 a0_6,.slice A0_7 l0_7.length c0_7] 33 (0,0)) (up BK177.out) hb);replace HB:=zq.mk (zb bw hb);(try clear hb);(try clear hb2);(try clear hk);(try clear hi)))
   go_ret
   exact⟨by first|rfl|(simp [zk,zx] <;> rfl)|(simp [*,zk,zx] <;> rfl),bw⟩

end Go.Proofs.YtmfpaeajibeikaaDoor.PEvalHolds
