-- Written by wip/pp of this repo (over the kit's print, with additions of this session); Lean checks every line.
import Derived.Test.YthhejedfjgikdaaDoorPRowReadsx4
namespace Go.Proofs.YthhejedfjgikdaaDoor.PRowReads
open Go.RowKit Go.Proofs.YthhejedfjgikdaaDoorW.PrintWords Go.Proofs.YthhejedfjgikdaaDoorW.PrintLast Go.Proofs.YthhejedfjgikdaaDoorW.PrintMore
attribute [local go_sem] zjo zjm zjw zjv zja zq9 zjn zjl   -- for this text's walks alone
set_option linter.unusedVariables false
set_option linter.unusedSimpArgs false

/-! ### qc: function 92 -/
mutual
def qc.j0:Nat→Int→Bool→ByteArray→List (S90)→List Int→List (S96)→Option (Bool)
 | 0,_,_,_,_,_,_=>none
 | k+1,x3,x31,x127000,x127001,x127002,x127003=>if x31=true then(some false) else (qc.l0 k x3 x127001 (x127001.length:Int) 0 x127000 x127001 x127002 x127003)
def qc.l0:Nat→Int→List (S90)→Int→Int→ByteArray→List (S90)→List Int→List (S96)→Option (Bool)
 | 0,_,_,_,_,_,_,_,_=>none
 | k+1,x3,x33,x34,x35,x127000,x127001,x127002,x127003=>if x35<x34 then(if 0≤x35 then(if x35<(x33.length:Int) then(if((qg x33 x35).f1)<1 then(some false) else (if((qg x33 x35).f1) > 3 then(some false) else (qc.l0 k x3 x33 x34 (wrap64 (x35+1)) x127000 x127001 x127002 x127003))) else (none)) else (none)) else (qc.l1 k x3 x127002 (x127002.length:Int) 0 x127000 x127001 x127002 x127003)
def qc.l1:Nat→Int→List Int→Int→Int→ByteArray→List (S90)→List Int→List (S96)→Option (Bool)
 | 0,_,_,_,_,_,_,_,_=>none
 | k+1,x3,x49,x50,x51,x127000,x127001,x127002,x127003=>if x51<x50 then(if 0≤x51 then(if x51<(x49.length:Int) then(if 0≤(rd x49 x51) then(if(rd x49 x51)<(x127001.length:Int) then(if((qg x127001 (rd x49 x51)).f2=true) then(qc.l1 k x3 x49 x50 (wrap64 (x51+1)) x127000 x127001 x127002 x127003) else (some false)) else (none)) else (none)) else (none)) else (none)) else (qc.l2 k x3 x127003 (x127003.length:Int) 0 x127000 x127001 x127002 x127003)
def qc.l2:Nat→Int→List (S96)→Int→Int→ByteArray→List (S90)→List Int→List (S96)→Option (Bool)
 | 0,_,_,_,_,_,_,_,_=>none
 | k+1,x3,x64,x65,x66,x127000,x127001,x127002,x127003=>if x66<x65 then(if 0≤x66 then(if x66<(x64.length:Int) then((zqa.f k ((zqi x64 x66).f1) x3).bind fun t134=>(if t134=true then(qc.l2 k x3 x64 x65 (wrap64 (x66+1)) x127000 x127001 x127002 x127003) else (some false))) else (none)) else (none)) else ((zj1.f x127001).bind fun t135=>((qo.f k t135).bind fun t138=>(if t138=true then((zj9.f x127003).bind fun t139=>((qo.f k t139).bind fun t142=>(some t142))) else (some false))))
end
def qc.f (k:Nat) (a0_0:ByteArray) (l0_1:List (S90)) (l0_2:List Int) (l0_3:List (S96)):Option (Bool):=if(l0_1.length:Int)<1 then(qc.j0 k (l0_1.length:Int) true a0_0 l0_1 l0_2 l0_3) else (if(l0_1.length:Int) > 6 then(qc.j0 k (l0_1.length:Int) true a0_0 l0_1 l0_2 l0_3) else (if(l0_3.length:Int) > 2 then(qc.j0 k (l0_1.length:Int) true a0_0 l0_1 l0_2 l0_3) else ((zqa.f k l0_2 (l0_1.length:Int)).bind fun t127=>(qc.j0 k (l0_1.length:Int) (!t127) a0_0 l0_1 l0_2 l0_3))))
theorem qc.mono_l:∀ k,(∀ y0 y1 y2 y3 y4 y5,LeO (qc.j0 k y0 y1 y2 y3 y4 y5) (qc.j0 (k+1) y0 y1 y2 y3 y4 y5))∧(∀ y0 y1 y2 y3 y4 y5 y6 y7,LeO (qc.l0 k y0 y1 y2 y3 y4 y5 y6 y7) (qc.l0 (k+1) y0 y1 y2 y3 y4 y5 y6 y7))∧(∀ y0 y1 y2 y3 y4 y5 y6 y7,LeO (qc.l1 k y0 y1 y2 y3 y4 y5 y6 y7) (qc.l1 (k+1) y0 y1 y2 y3 y4 y5 y6 y7))∧(∀ y0 y1 y2 y3 y4 y5 y6 y7,LeO (qc.l2 k y0 y1 y2 y3 y4 y5 y6 y7) (qc.l2 (k+1) y0 y1 y2 y3 y4 y5 y6 y7))
 | 0=>⟨fun _ _ _ _ _ _ r h=>by simp [qc.j0] at h,fun _ _ _ _ _ _ _ _ r h=>by simp [qc.l0] at h,fun _ _ _ _ _ _ _ _ r h=>by simp [qc.l1] at h,fun _ _ _ _ _ _ _ _ r h=>by simp [qc.l2] at h⟩
 | k+1=>by
  obtain ⟨ih0,ih1,ih2,ih3⟩:=qc.mono_l k
  refine⟨?_,?_,?_,?_⟩
  ·intro y0 y1 y2 y3 y4 y5
   unfold qc.j0
   repeat' first
   | (with_reducible first|exact ih0 _ _ _ _ _ _|exact ih1 _ _ _ _ _ _ _ _|exact ih2 _ _ _ _ _ _ _ _|exact ih3 _ _ _ _ _ _ _ _|exact qo.mono _ _|exact zqa.mono _ _ _|exact LeO.refl _|exact LeO.none _|refine LeO.ite ?_ ?_|refine LeO.bind ?_ (fun _=>?_))
   | exact ih0 _ _ _ _ _ _
   | exact ih1 _ _ _ _ _ _ _ _
   | exact ih2 _ _ _ _ _ _ _ _
   | exact ih3 _ _ _ _ _ _ _ _
   | exact qo.mono _ _
   | exact zqa.mono _ _ _
   | exact LeO.none _
   | refine LeO.ite ?_ ?_
   | refine LeO.bind ?_ (fun _=>?_)
  ·intro y0 y1 y2 y3 y4 y5 y6 y7
   unfold qc.l0
   repeat' first
   | (with_reducible first|exact ih0 _ _ _ _ _ _|exact ih1 _ _ _ _ _ _ _ _|exact ih2 _ _ _ _ _ _ _ _|exact ih3 _ _ _ _ _ _ _ _|exact qo.mono _ _|exact zqa.mono _ _ _|exact LeO.refl _|exact LeO.none _|refine LeO.ite ?_ ?_|refine LeO.bind ?_ (fun _=>?_))
   | exact ih0 _ _ _ _ _ _
   | exact ih1 _ _ _ _ _ _ _ _
   | exact ih2 _ _ _ _ _ _ _ _
   | exact ih3 _ _ _ _ _ _ _ _
   | exact qo.mono _ _
   | exact zqa.mono _ _ _
   | exact LeO.none _
   | refine LeO.ite ?_ ?_
   | refine LeO.bind ?_ (fun _=>?_)
  ·intro y0 y1 y2 y3 y4 y5 y6 y7
   unfold qc.l1
   repeat' first
   | (with_reducible first|exact ih0 _ _ _ _ _ _|exact ih1 _ _ _ _ _ _ _ _|exact ih2 _ _ _ _ _ _ _ _|exact ih3 _ _ _ _ _ _ _ _|exact qo.mono _ _|exact zqa.mono _ _ _|exact LeO.refl _|exact LeO.none _|refine LeO.ite ?_ ?_|refine LeO.bind ?_ (fun _=>?_))
   | exact ih0 _ _ _ _ _ _
   | exact ih1 _ _ _ _ _ _ _ _
   | exact ih2 _ _ _ _ _ _ _ _
   | exact ih3 _ _ _ _ _ _ _ _
   | exact qo.mono _ _
   | exact zqa.mono _ _ _
   | exact LeO.none _
   | refine LeO.ite ?_ ?_
   | refine LeO.bind ?_ (fun _=>?_)
  intro y0 y1 y2 y3 y4 y5 y6 y7
  unfold qc.l2
  repeat' first
  | (with_reducible first|exact ih0 _ _ _ _ _ _|exact ih1 _ _ _ _ _ _ _ _|exact ih2 _ _ _ _ _ _ _ _|exact ih3 _ _ _ _ _ _ _ _|exact qo.mono _ _|exact zqa.mono _ _ _|exact LeO.refl _|exact LeO.none _|refine LeO.ite ?_ ?_|refine LeO.bind ?_ (fun _=>?_))
  | exact ih0 _ _ _ _ _ _
  | exact ih1 _ _ _ _ _ _ _ _
  | exact ih2 _ _ _ _ _ _ _ _
  | exact ih3 _ _ _ _ _ _ _ _
  | exact qo.mono _ _
  | exact zqa.mono _ _ _
  | exact LeO.none _
  | refine LeO.ite ?_ ?_
  | refine LeO.bind ?_ (fun _=>?_)
theorem qc.mono:∀ a0 a1 a2 a3 k,LeO (qc.f k a0 a1 a2 a3) (qc.f (k+1) a0 a1 a2 a3):=by
 intro a0 a1 a2 a3 k
 obtain ⟨ih0,ih1,ih2,ih3⟩:=qc.mono_l k
 unfold qc.f
 repeat' first
   | (with_reducible first|exact ih0 _ _ _ _ _ _|exact ih1 _ _ _ _ _ _ _ _|exact ih2 _ _ _ _ _ _ _ _|exact ih3 _ _ _ _ _ _ _ _|exact qo.mono _ _|exact zqa.mono _ _ _|exact LeO.refl _|exact LeO.none _|refine LeO.ite ?_ ?_|refine LeO.bind ?_ (fun _=>?_))
   | exact ih0 _ _ _ _ _ _
   | exact ih1 _ _ _ _ _ _ _ _
   | exact ih2 _ _ _ _ _ _ _ _
   | exact ih3 _ _ _ _ _ _ _ _
   | exact qo.mono _ _
   | exact zqa.mono _ _ _
   | exact LeO.none _
   | refine LeO.ite ?_ ?_
   | refine LeO.bind ?_ (fun _=>?_)
set_option maxHeartbeats 8000000 in
set_option maxRecDepth 100000 in
theorem qc.calls (k:Nat) (a0_0:ByteArray) (A0_1:Option Addr) (c0_1:Nat) (l0_1:List (S90)) (A0_2:Option Addr) (c0_2:Nat) (l0_2:List Int) (A0_3:Option Addr) (c0_3:Nat) (l0_3:List (S96)) (r:Bool) (w:World) (hr0_1:Kd.C k90 w A0_1 l0_1.length l0_1) (hc0_1:l0_1.length≤c0_1) (hr0_2:Kd.C (Kd.int .i64) w A0_2 l0_2.length l0_2) (hc0_2:l0_2.length≤c0_2) (hr0_3:Kd.C k96 w A0_3 l0_3.length l0_3) (hc0_3:l0_3.length≤c0_3) (hL:LD w) (h:qc.f k a0_0 l0_1 l0_2 l0_3=some r) :
  Calls Tryd.prog 92 #[.agg #[.string a0_0,.slice A0_1 l0_1.length c0_1,.slice A0_2 l0_2.length c0_2,.slice A0_3 l0_3.length c0_3]] w fun e w'=>e = .returned (.bool r)∧Below w.heap.size w w':=by
 have hu61:=Tryd.underlying61
 have hu90:=Tryd.underlying90
 have hu96:=Tryd.underlying96
 have HLD:=zq.mk hL
 clear hL
 have HR0_1:=zq.mk hr0_1
 have HC0_1:=zq.mk hc0_1
 clear hr0_1 hc0_1
 have HR0_2:=zq.mk hr0_2
 have HC0_2:=zq.mk hc0_2
 clear hr0_2 hc0_2
 have HR0_3:=zq.mk hr0_3
 have HC0_3:=zq.mk hc0_3
 clear hr0_3 hc0_3
 have HB:=zq.mk (Below.refl w.heap.size w)
 have H:(if(l0_1.length:Int)<1 then(qc.j0 k (l0_1.length:Int) true a0_0 l0_1 l0_2 l0_3) else (if(l0_1.length:Int) > 6 then(qc.j0 k (l0_1.length:Int) true a0_0 l0_1 l0_2 l0_3) else (if(l0_3.length:Int) > 2 then(qc.j0 k (l0_1.length:Int) true a0_0 l0_1 l0_2 l0_3) else ((zqa.f k l0_2 (l0_1.length:Int)).bind fun t127=>(qc.j0 k (l0_1.length:Int) (!t127) a0_0 l0_1 l0_2 l0_3)))))=some r:=h
 clear h
 have HC2:=zq.mk H
 clear H
 go_enter Tryd.func92,Tryd.ntmps92
 go_upto_region 2 with (first|((with_reducible refine qr (N:=1) rfl ?_);(try(refine ql (by rfl) ?_;dsimp only));refine qm ?hg (N:=1) ?hd (cs:=#[.string a0_0,.slice A0_1 l0_1.length c0_1,.slice A0_2 l0_2.length c0_2,.slice A0_3 l0_3.length c0_3]) (t:=61) ?hr ?_;(case hd=>rfl);(case hg=>rfl);(case hr=>first|(go_simp;done)|(go_simp;rfl));intro gb126 hg w3 hbox hb;have BK126:=zq.mk (hbox);have GW126:=zq.mk ((by rw [hg];exact(zw bw):w.heap.size≤gb126));have GE126:=zq.mk ((by rw [hg];exact(zw bw):w.heap.size≤gb126));replace HB:=zq.mk (zn bw hb);clear hb hbox hg;obtain ⟨hcz4_0,hcz4_1,hcz4_2,hcz4_3,hfz4_0,hfz4_1,hfz4_2,hfz4_3⟩:=zqv BK126.out))
 (try simp only [Act.put,List.setIfInBounds_toArray,List.set_cons_zero,List.set_cons_succ])
 go_cut [31] (fun v31 wc => ∃ (kq:Nat) (x31_1:Bool),v31 = .bool x31_1∧zq (qc.j0 kq (l0_1.length:Int) x31_1 a0_0 l0_1 l0_2 l0_3=some r)∧zq (kq≤k)∧zq (wc.heap[gb126]? = some (.cells #[.string a0_0,(.slice A0_1 l0_1.length c0_1),(.slice A0_2 l0_2.length c0_2),(.slice A0_3 l0_3.length c0_3)] 61 (0,0)))∧zq (Below w.heap.size w wc))
 case first=>
  have H:=HC2.out
  clear HC2
  by_cases c5:(l0_1.length:Int)<1
  ·rw [if_pos c5] at H
   have c5b0:=decide_eq_true c5
   have c5b1:decide (l0_1.length<1)=true:=decide_eq_true (by omega)
   clear c5
   (first|rw [c5b0]|(simp only [zqp,zqq];rw [c5b0])|skip)
   have H':=zq.mk H
   clear H
   go_wp2
   go_meet
   case rel=>exact⟨_,(true),vr,H',⟨by first|omega|exact Nat.le_refl _⟩,⟨by(with_reducible repeat(first|refine zz ?_ _|refine zk ?_|refine zj ?_ _));exact BK126.out⟩,⟨bw⟩⟩
  rw [if_neg c5] at H
  have c5b0:=decide_eq_false c5
  have c5b1:decide (l0_1.length<1)=false:=decide_eq_false (by omega)
  clear c5
  (first|rw [c5b0]|(simp only [zqp,zqq];rw [c5b0])|skip)
  by_cases c6:(l0_1.length:Int) > 6
  ·rw [if_pos c6] at H
   have c6b0:=decide_eq_true c6
   have c6b1:decide (6<l0_1.length)=true:=decide_eq_true (by omega)
   clear c6
   have H':=zq.mk H
   clear H
   go_wp2
   go_meet
   case rel=>exact⟨_,(true),vr,H',⟨by first|omega|exact Nat.le_refl _⟩,⟨by(with_reducible repeat(first|refine zz ?_ _|refine zk ?_|refine zj ?_ _));exact BK126.out⟩,⟨bw⟩⟩
  rw [if_neg c6] at H
  have c6b0:=decide_eq_false c6
  have c6b1:decide (6<l0_1.length)=false:=decide_eq_false (by omega)
  clear c6
  by_cases c7:(l0_3.length:Int) > 2
  ·rw [if_pos c7] at H
   have c7b0:=decide_eq_true c7
   have c7b1:decide (2<l0_3.length)=true:=decide_eq_true (by omega)
   clear c7
   have H':=zq.mk H
   clear H
   obtain ⟨hcz8_0,hcz8_1,hcz8_2,hcz8_3,hfz8_0,hfz8_1,hfz8_2,hfz8_3⟩:=zqv BK126.out
   go_wp2
   go_meet
   case rel=>exact⟨_,(true),vr,H',⟨by first|omega|exact Nat.le_refl _⟩,⟨by(with_reducible repeat(first|refine zz ?_ _|refine zk ?_|refine zj ?_ _));exact BK126.out⟩,⟨bw⟩⟩
  rw [if_neg c7] at H
  have c7b0:=decide_eq_false c7
  have c7b1:decide (2<l0_3.length)=false:=decide_eq_false (by omega)
  clear c7
  replace H:=Option.bind_eq_some_iff.mp H
  obtain ⟨t127,A90,H⟩:=H
  replace H:(qc.j0 k (l0_1.length:Int) (!t127) a0_0 l0_1 l0_2 l0_3)=some r:=H
  have A9:=zq.mk A90
  clear A90
  have H':=zq.mk H
  clear H
  obtain ⟨hcz10_0,hcz10_1,hcz10_2,hcz10_3,hfz10_0,hfz10_1,hfz10_2,hfz10_3⟩:=zqv BK126.out
  go_wp2_with (first|(go_at_call 114;(with_reducible refine(zqa.calls k _ _ l0_2 (l0_1.length:Int) t127 _ ?side1 ?side2 A9.out).mono ?_);(case side1=>exact Kd.cu (Kd.qu HR0_2.out HB.out));(case side2=>exact HC0_2.out);rintro e w11 ⟨rfl,hb⟩;replace BK126:=zq.mk (ze (g:=gb126) (o:=.cells #[.string a0_0,.slice A0_1 l0_1.length c0_1,.slice A0_2 l0_2.length c0_2,.slice A0_3 l0_3.length c0_3] 61 (0,0)) (up BK126.out) hb);replace HB:=zq.mk (zn bw hb);(try clear hb);(try clear hb2);(try clear hk);(try clear hi)))
  go_meet
  case rel=>exact⟨_,(!t127),vr,H',⟨by first|omega|exact Nat.le_refl _⟩,⟨by(with_reducible repeat(first|refine zz ?_ _|refine zk ?_|refine zj ?_ _));exact BK126.out⟩,⟨bw⟩⟩
 case rest=>
  clear HC2
  (try clear hcz4_0);(try clear hcz4_1);(try clear hcz4_2);(try clear hcz4_3);(try clear hfz4_0);(try clear hfz4_1);(try clear hfz4_2);(try clear hfz4_3)
  (try clear BK126)
  obtain ⟨kq,x31_1,rfl,HA,HJ1,BK126,HB⟩:=hcut
  cases kq with
  | zero=>exact absurd HA.out (by simp [qc.j0])
  | succ kj1=>
   have H:=HA.out
   clear HA
   simp only [qc.j0] at H
   by_cases c12:x31_1=true
   ·subst c12
    rw [if_pos rfl] at H
    obtain rfl:=Option.some.inj H
    go_wp2
    go_ret
    exact⟨by first|rfl|(simp [zg,zy] <;> rfl)|(simp [*,zg,zy] <;> rfl),bw⟩
   replace c12:=Bool.eq_false_iff.mpr c12
   subst c12
   rw [if_neg (show ¬ (false=true) by decide)] at H
   have H':=zq.mk H
   clear H
   obtain ⟨hcz13_0,hcz13_1,hcz13_2,hcz13_3,hfz13_0,hfz13_1,hfz13_2,hfz13_3⟩:=zqv BK126.out
   go_wp2
   go_loopg [35] kj1 (fun kq v35 w' => ∃ (x35_2:Int),v35 = .int .i64 x35_2∧zq (qc.l0 kq (l0_1.length:Int) l0_1 (l0_1.length:Int) x35_2 a0_0 l0_1 l0_2 l0_3=some r)∧zq (kq≤kj1)∧zq (w'.heap[gb126]? = some (.cells #[.string a0_0,(.slice A0_1 l0_1.length c0_1),(.slice A0_2 l0_2.length c0_2),(.slice A0_3 l0_3.length c0_3)] 61 (0,0)))∧zq (Below w.heap.size w w'))
   case atStart=>exact⟨(0),vr,H',⟨Nat.le_refl _⟩,⟨by(with_reducible repeat(first|refine zz ?_ _|refine zk ?_|refine zj ?_ _));exact BK126.out⟩,⟨bw⟩⟩
   case round=>
    clear H'
    (try clear c12);(try clear hcz13_0);(try clear hcz13_1);(try clear hcz13_2);(try clear hcz13_3);(try clear hcz4_0);(try clear hcz4_1);(try clear hcz4_2);(try clear hcz4_3);(try clear hfz13_0);(try clear hfz13_1);(try clear hfz13_2);(try clear hfz13_3);(try clear hfz4_0);(try clear hfz4_1);(try clear hfz4_2);(try clear hfz4_3)
    (try clear BK126)
    obtain ⟨x35_2,rfl,HA,HK2,BK126,HB⟩:=hrel
    cases gk with
    | zero=>exact absurd HA.out (by simp [qc.l0])
    | succ k2=>
     have H:=HA.out
     clear HA
     simp only [qc.l0] at H
     by_cases c14:x35_2<(l0_1.length:Int)
     ·rw [if_pos c14] at H
      have c14b0:=decide_eq_true c14
      clear c14
      by_cases c15:0≤x35_2
      ·rw [if_pos c15] at H
       have c15b0:=decide_eq_true c15
       clear c15
       by_cases c16:x35_2<(l0_1.length:Int)
       ·rw [if_pos c16] at H
        have c16b0:=decide_eq_true c16
        clear c16
        by_cases c17:((qg l0_1 x35_2).f1)<1
        ·rw [if_pos c17] at H
         have c17b0:=decide_eq_true c17
         clear c17
         obtain rfl:=Option.some.inj H
         have p128:0≤(x35_2:Int):=dt
         have q128:x35_2<(l0_1.length:Int):=dt
         obtain ⟨ad128,e128,hx128_0,hx128_1,hx128_2⟩:=zx1 HR0_1.out x35_2 p128 q128
         cases e128
         replace hx128_0:=(HB.out.cell (World.block_lt_of_cell? w _ hx128_0)).trans hx128_0
         replace hx128_1:=(HB.out.cell (World.block_lt_of_cell? w _ hx128_1)).trans hx128_1
         replace hx128_2:=(HB.out.cell (World.block_lt_of_cell? w _ hx128_2)).trans hx128_2
         replace p128:=eq_true p128
         replace q128:=eq_true q128
         go_wp2_with (first|((with_reducible refine qr (N:=5) rfl ?_);(try(refine ql (by rfl) ?_;dsimp only));refine qm ?hg (N:=5) ?hd (cs:=#[.string (⟨#[]⟩:ByteArray),.int .i64 0,.bool false]) (t:=90) ?hr ?_;(case hd=>rfl);(case hg=>rfl);(case hr=>first|(go_simp;done)|(go_simp;rfl));intro gb129 hg w18 hbox hb;have BK129:=zq.mk (hbox);have GW129:=zq.mk ((by rw [hg];exact(zw bw):w.heap.size≤gb129));have GE129:=zq.mk ((by rw [hg];exact(zw bw):w.heap.size≤gb129));replace HB:=zq.mk (zn bw hb);have NB126_129:=zq.mk ((by rw [hg];exact Nat.ne_of_lt (zq3 (g:=gb126) (o:=.cells #[.string a0_0,.slice (some ad128) l0_1.length c0_1,.slice A0_2 l0_2.length c0_2,.slice A0_3 l0_3.length c0_3] 61 (0,0)) (up BK126.out)):gb126≠gb129));have NB129_126:=zq.mk ((by rw [hg];exact Nat.ne_of_gt (zq3 (g:=gb126) (o:=.cells #[.string a0_0,.slice (some ad128) l0_1.length c0_1,.slice A0_2 l0_2.length c0_2,.slice A0_3 l0_3.length c0_3] 61 (0,0)) (up BK126.out)):gb129≠gb126));replace BK126:=zq.mk (ze (g:=gb126) (o:=.cells #[.string a0_0,.slice (some ad128) l0_1.length c0_1,.slice A0_2 l0_2.length c0_2,.slice A0_3 l0_3.length c0_3] 61 (0,0)) (up BK126.out) hb);clear hb hbox hg;have hnb19:=NB129_126.out;have hnc19:=NB126_129.out;obtain ⟨hcz20_0,hcz20_1,hcz20_2,hfz20_0,hfz20_1,hfz20_2⟩:=qd BK129.out))
         go_ret
         exact⟨by first|rfl|(simp [zg,zy] <;> rfl)|(simp [*,zg,zy] <;> rfl),bw⟩
        rw [if_neg c17] at H
        have c17b0:=decide_eq_false c17
        clear c17
        by_cases c21:((qg l0_1 x35_2).f1) > 3
        ·rw [if_pos c21] at H
         have c21b0:=decide_eq_true c21
         clear c21
         obtain rfl:=Option.some.inj H
         have p128:0≤(x35_2:Int):=dt
         have q128:x35_2<(l0_1.length:Int):=dt
         obtain ⟨ad128,e128,hx128_0,hx128_1,hx128_2⟩:=zx1 HR0_1.out x35_2 p128 q128
         cases e128
         replace hx128_0:=(HB.out.cell (World.block_lt_of_cell? w _ hx128_0)).trans hx128_0
         replace hx128_1:=(HB.out.cell (World.block_lt_of_cell? w _ hx128_1)).trans hx128_1
         replace hx128_2:=(HB.out.cell (World.block_lt_of_cell? w _ hx128_2)).trans hx128_2
         replace p128:=eq_true p128
         replace q128:=eq_true q128
         go_wp2_with (first|((with_reducible refine qr (N:=5) rfl ?_);(try(refine ql (by rfl) ?_;dsimp only));refine qm ?hg (N:=5) ?hd (cs:=#[.string (⟨#[]⟩:ByteArray),.int .i64 0,.bool false]) (t:=90) ?hr ?_;(case hd=>rfl);(case hg=>rfl);(case hr=>first|(go_simp;done)|(go_simp;rfl));intro gb129 hg w22 hbox hb;have BK129:=zq.mk (hbox);have GW129:=zq.mk ((by rw [hg];exact(zw bw):w.heap.size≤gb129));have GE129:=zq.mk ((by rw [hg];exact(zw bw):w.heap.size≤gb129));replace HB:=zq.mk (zn bw hb);have NB126_129:=zq.mk ((by rw [hg];exact Nat.ne_of_lt (zq3 (g:=gb126) (o:=.cells #[.string a0_0,.slice (some ad128) l0_1.length c0_1,.slice A0_2 l0_2.length c0_2,.slice A0_3 l0_3.length c0_3] 61 (0,0)) (up BK126.out)):gb126≠gb129));have NB129_126:=zq.mk ((by rw [hg];exact Nat.ne_of_gt (zq3 (g:=gb126) (o:=.cells #[.string a0_0,.slice (some ad128) l0_1.length c0_1,.slice A0_2 l0_2.length c0_2,.slice A0_3 l0_3.length c0_3] 61 (0,0)) (up BK126.out)):gb129≠gb126));replace BK126:=zq.mk (ze (g:=gb126) (o:=.cells #[.string a0_0,.slice (some ad128) l0_1.length c0_1,.slice A0_2 l0_2.length c0_2,.slice A0_3 l0_3.length c0_3] 61 (0,0)) (up BK126.out) hb);clear hb hbox hg;have hnb23:=NB129_126.out;have hnc23:=NB126_129.out;obtain ⟨hcz24_0,hcz24_1,hcz24_2,hfz24_0,hfz24_1,hfz24_2⟩:=qd BK129.out))
         go_ret
         exact⟨by first|rfl|(simp [zg,zy] <;> rfl)|(simp [*,zg,zy] <;> rfl),bw⟩
        rw [if_neg c21] at H
        have c21b0:=decide_eq_false c21
        clear c21
        have H':=zq.mk H
        clear H
        have p128:0≤(x35_2:Int):=dt
        have q128:x35_2<(l0_1.length:Int):=dt
        obtain ⟨ad128,e128,hx128_0,hx128_1,hx128_2⟩:=zx1 HR0_1.out x35_2 p128 q128
        cases e128
        replace hx128_0:=(HB.out.cell (World.block_lt_of_cell? w _ hx128_0)).trans hx128_0
        replace hx128_1:=(HB.out.cell (World.block_lt_of_cell? w _ hx128_1)).trans hx128_1
        replace hx128_2:=(HB.out.cell (World.block_lt_of_cell? w _ hx128_2)).trans hx128_2
        replace p128:=eq_true p128
        replace q128:=eq_true q128
        go_wp2_with (first|((with_reducible refine qr (N:=5) rfl ?_);(try(refine ql (by rfl) ?_;dsimp only));refine qm ?hg (N:=5) ?hd (cs:=#[.string (⟨#[]⟩:ByteArray),.int .i64 0,.bool false]) (t:=90) ?hr ?_;(case hd=>rfl);(case hg=>rfl);(case hr=>first|(go_simp;done)|(go_simp;rfl));intro gb129 hg w25 hbox hb;have BK129:=zq.mk (hbox);have GW129:=zq.mk ((by rw [hg];exact(zw bw):w.heap.size≤gb129));have GE129:=zq.mk ((by rw [hg];exact(zw bw):w.heap.size≤gb129));replace HB:=zq.mk (zn bw hb);have NB126_129:=zq.mk ((by rw [hg];exact Nat.ne_of_lt (zq3 (g:=gb126) (o:=.cells #[.string a0_0,.slice (some ad128) l0_1.length c0_1,.slice A0_2 l0_2.length c0_2,.slice A0_3 l0_3.length c0_3] 61 (0,0)) (up BK126.out)):gb126≠gb129));have NB129_126:=zq.mk ((by rw [hg];exact Nat.ne_of_gt (zq3 (g:=gb126) (o:=.cells #[.string a0_0,.slice (some ad128) l0_1.length c0_1,.slice A0_2 l0_2.length c0_2,.slice A0_3 l0_3.length c0_3] 61 (0,0)) (up BK126.out)):gb129≠gb126));replace BK126:=zq.mk (ze (g:=gb126) (o:=.cells #[.string a0_0,.slice (some ad128) l0_1.length c0_1,.slice A0_2 l0_2.length c0_2,.slice A0_3 l0_3.length c0_3] 61 (0,0)) (up BK126.out) hb);clear hb hbox hg;have hnb26:=NB129_126.out;have hnc26:=NB126_129.out;obtain ⟨hcz27_0,hcz27_1,hcz27_2,hfz27_0,hfz27_1,hfz27_2⟩:=qd BK129.out))
        go_roundg k2
        case measure=>have:=HJ1.out;have:=HK2.out;omega
        case rel=>exact⟨(wrap64 (x35_2+1)),vr,H',⟨by have:=HJ1.out;have:=HK2.out;omega⟩,⟨by(with_reducible repeat(first|refine zz ?_ _|refine zk ?_|refine zj ?_ _));refine zqf ?_ NB126_129.out _;(with_reducible repeat(first|refine zz ?_ _|refine zk ?_|refine zj ?_ _));refine zqf ?_ NB126_129.out _;(with_reducible repeat(first|refine zz ?_ _|refine zk ?_|refine zj ?_ _));refine zqf ?_ NB126_129.out _;(with_reducible repeat(first|refine zz ?_ _|refine zk ?_|refine zj ?_ _));exact BK126.out⟩,⟨bw⟩⟩
       rw [if_neg c16] at H
       exact absurd H (by simp)
      rw [if_neg c15] at H
      exact absurd H (by simp)
     rw [if_neg c14] at H
     have c14b0:=decide_eq_false c14
     clear c14
     have H':=zq.mk H
     clear H
     obtain ⟨hcz28_0,hcz28_1,hcz28_2,hcz28_3,hfz28_0,hfz28_1,hfz28_2,hfz28_3⟩:=zqv BK126.out
     go_wp2
     go_loopg [51] k2 (fun kq v51 w' => ∃ (x51_3:Int),v51 = .int .i64 x51_3∧zq (qc.l1 kq (l0_1.length:Int) l0_2 (l0_2.length:Int) x51_3 a0_0 l0_1 l0_2 l0_3=some r)∧zq (kq≤k2)∧zq (w'.heap[gb126]? = some (.cells #[.string a0_0,(.slice A0_1 l0_1.length c0_1),(.slice A0_2 l0_2.length c0_2),(.slice A0_3 l0_3.length c0_3)] 61 (0,0)))∧zq (Below w.heap.size w w'))
     case atStart=>exact⟨(0),vr,H',⟨Nat.le_refl _⟩,⟨by(with_reducible repeat(first|refine zz ?_ _|refine zk ?_|refine zj ?_ _));exact BK126.out⟩,⟨bw⟩⟩
     case round=>
      clear H'
      (try clear c12);(try clear c14);(try clear c14b0);(try clear hcz13_0);(try clear hcz13_1);(try clear hcz13_2);(try clear hcz13_3);(try clear hcz28_0);(try clear hcz28_1);(try clear hcz28_2);(try clear hcz28_3);(try clear hcz4_0);(try clear hcz4_1);(try clear hcz4_2);(try clear hcz4_3);(try clear hfz13_0);(try clear hfz13_1);(try clear hfz13_2);(try clear hfz13_3);(try clear hfz28_0);(try clear hfz28_1);(try clear hfz28_2);(try clear hfz28_3);(try clear hfz4_0);(try clear hfz4_1);(try clear hfz4_2);(try clear hfz4_3)
      (try clear BK126)
      obtain ⟨x51_3,rfl,HA,HK3,BK126,HB⟩:=hrel
      cases gk with
      | zero=>exact absurd HA.out (by simp [qc.l1])
      | succ k3=>
       have H:=HA.out
       clear HA
       simp only [qc.l1] at H
       by_cases c29:x51_3<(l0_2.length:Int)
       ·rw [if_pos c29] at H
        have c29b0:=decide_eq_true c29
        clear c29
        by_cases c30:0≤x51_3
        ·rw [if_pos c30] at H
         have c30b0:=decide_eq_true c30
         clear c30
         by_cases c31:x51_3<(l0_2.length:Int)
         ·rw [if_pos c31] at H
          have c31b0:=decide_eq_true c31
          clear c31
          by_cases c32:0≤(rd l0_2 x51_3)
          ·rw [if_pos c32] at H
           have c32b0:=decide_eq_true c32
           clear c32
           by_cases c33:(rd l0_2 x51_3)<(l0_1.length:Int)
           ·rw [if_pos c33] at H
            have c33b0:=decide_eq_true c33
            clear c33
            obtain ⟨bq34,hbq34⟩:∃ b_:Bool,b_=((qg l0_1 (rd l0_2 x51_3)).f2):=⟨_,rfl⟩
            replace H:(if(bq34=true) then(qc.l1 k3 (l0_1.length:Int) l0_2 (l0_2.length:Int) (wrap64 (x51_3+1)) a0_0 l0_1 l0_2 l0_3) else (some false))=some r:=by rw [← hbq34] at H;exact H
            have Nbq34:=zq.mk hbq34
            clear hbq34
            by_cases c35:(bq34=true)
            ·subst c35
             rw [if_pos rfl] at H
             (try rw [← Nbq34.out] at hx128_0)
             (try rw [← Nbq34.out] at hx128_1)
             (try rw [← Nbq34.out] at hx128_2)
             (try rw [← Nbq34.out])
             have H':=zq.mk H
             clear H
             have p130:0≤(x51_3:Int):=dt
             have q130:x51_3<(l0_2.length:Int):=dt
             obtain ⟨ad130,e130,hx130_0⟩:=Kd.zjb HR0_2.out x51_3 p130 q130
             cases e130
             replace hx130_0:=(HB.out.cell (World.block_lt_of_cell? w _ hx130_0)).trans hx130_0
             replace p130:=eq_true p130
             replace q130:=eq_true q130
             obtain ⟨hcz36_0,hcz36_1,hcz36_2,hcz36_3,hfz36_0,hfz36_1,hfz36_2,hfz36_3⟩:=zqv BK126.out
             have p131:0≤((rd l0_2 x51_3):Int):=dt
             have q131:(rd l0_2 x51_3)<(l0_1.length:Int):=dt
             obtain ⟨ad131,e131,hx131_0,hx131_1,hx131_2⟩:=zx1 HR0_1.out (rd l0_2 x51_3) p131 q131
             (try rw [← Nbq34.out] at hx131_2)
             cases e131
             replace hx131_0:=(HB.out.cell (World.block_lt_of_cell? w _ hx131_0)).trans hx131_0
             replace hx131_1:=(HB.out.cell (World.block_lt_of_cell? w _ hx131_1)).trans hx131_1
             replace hx131_2:=(HB.out.cell (World.block_lt_of_cell? w _ hx131_2)).trans hx131_2
             replace p131:=eq_true p131
             replace q131:=eq_true q131
             go_wp2
             go_roundg k3
             case measure=>have:=HJ1.out;have:=HK2.out;have:=HK3.out;omega
             case rel=>first|(exact⟨(wrap64 (x51_3+1)),vr,H',⟨by have:=HJ1.out;have:=HK2.out;have:=HK3.out;omega⟩,⟨by(with_reducible repeat(first|refine zz ?_ _|refine zk ?_|refine zj ?_ _));exact BK126.out⟩,⟨bw⟩⟩)|(simp only [← Nbq34.out];exact⟨(wrap64 (x51_3+1)),vr,H',⟨by have:=HJ1.out;have:=HK2.out;have:=HK3.out;omega⟩,⟨by(with_reducible repeat(first|refine zz ?_ _|refine zk ?_|refine zj ?_ _));exact BK126.out⟩,⟨bw⟩⟩)
            replace c35:=Bool.eq_false_iff.mpr c35
            subst c35
            rw [if_neg (show ¬ (false=true) by decide)] at H
            (try rw [← Nbq34.out] at hx128_0)
            (try rw [← Nbq34.out] at hx128_1)
            (try rw [← Nbq34.out] at hx128_2)
            (try rw [← Nbq34.out] at hx130_0)
            (try rw [← Nbq34.out] at hx131_0)
            (try rw [← Nbq34.out] at hx131_1)
            (try rw [← Nbq34.out] at hx131_2)
            (try rw [← Nbq34.out])
            obtain rfl:=Option.some.inj H
            have p130:0≤(x51_3:Int):=dt
            have q130:x51_3<(l0_2.length:Int):=dt
            obtain ⟨ad130,e130,hx130_0⟩:=Kd.zjb HR0_2.out x51_3 p130 q130
            cases e130
            replace hx130_0:=(HB.out.cell (World.block_lt_of_cell? w _ hx130_0)).trans hx130_0
            replace p130:=eq_true p130
            replace q130:=eq_true q130
            obtain ⟨hcz37_0,hcz37_1,hcz37_2,hcz37_3,hfz37_0,hfz37_1,hfz37_2,hfz37_3⟩:=zqv BK126.out
            have p131:0≤((rd l0_2 x51_3):Int):=dt
            have q131:(rd l0_2 x51_3)<(l0_1.length:Int):=dt
            obtain ⟨ad131,e131,hx131_0,hx131_1,hx131_2⟩:=zx1 HR0_1.out (rd l0_2 x51_3) p131 q131
            (try rw [← Nbq34.out] at hx131_2)
            cases e131
            replace hx131_0:=(HB.out.cell (World.block_lt_of_cell? w _ hx131_0)).trans hx131_0
            replace hx131_1:=(HB.out.cell (World.block_lt_of_cell? w _ hx131_1)).trans hx131_1
            replace hx131_2:=(HB.out.cell (World.block_lt_of_cell? w _ hx131_2)).trans hx131_2
            replace p131:=eq_true p131
            replace q131:=eq_true q131
            go_wp2
            go_ret
            exact⟨by first|rfl|(simp [zg,zy] <;> rfl)|(simp [*,zg,zy] <;> rfl),bw⟩
           rw [if_neg c33] at H
           exact absurd H (by simp)
          rw [if_neg c32] at H
          exact absurd H (by simp)
         rw [if_neg c31] at H
         exact absurd H (by simp)
        rw [if_neg c30] at H
        exact absurd H (by simp)
       rw [if_neg c29] at H
       have c29b0:=decide_eq_false c29
       clear c29
       have H':=zq.mk H
       clear H
       obtain ⟨hcz38_0,hcz38_1,hcz38_2,hcz38_3,hfz38_0,hfz38_1,hfz38_2,hfz38_3⟩:=zqv BK126.out
       go_wp2
       go_loopg [66] k3 (fun kq v66 w' => ∃ (x66_4:Int),v66 = .int .i64 x66_4∧zq (qc.l2 kq (l0_1.length:Int) l0_3 (l0_3.length:Int) x66_4 a0_0 l0_1 l0_2 l0_3=some r)∧zq (kq≤k3)∧zq (w'.heap[gb126]? = some (.cells #[.string a0_0,(.slice A0_1 l0_1.length c0_1),(.slice A0_2 l0_2.length c0_2),(.slice A0_3 l0_3.length c0_3)] 61 (0,0)))∧zq (Below w.heap.size w w'))
       case atStart=>exact⟨(0),vr,H',⟨Nat.le_refl _⟩,⟨by(with_reducible repeat(first|refine zz ?_ _|refine zk ?_|refine zj ?_ _));exact BK126.out⟩,⟨bw⟩⟩
       case round=>
        clear H'
        (try clear c12);(try clear c14);(try clear c14b0);(try clear c29);(try clear c29b0);(try clear hcz13_0);(try clear hcz13_1);(try clear hcz13_2);(try clear hcz13_3);(try clear hcz28_0);(try clear hcz28_1);(try clear hcz28_2);(try clear hcz28_3);(try clear hcz38_0);(try clear hcz38_1);(try clear hcz38_2);(try clear hcz38_3);(try clear hcz4_0);(try clear hcz4_1);(try clear hcz4_2);(try clear hcz4_3);(try clear hfz13_0);(try clear hfz13_1);(try clear hfz13_2);(try clear hfz13_3);(try clear hfz28_0);(try clear hfz28_1);(try clear hfz28_2);(try clear hfz28_3);(try clear hfz38_0);(try clear hfz38_1);(try clear hfz38_2);(try clear hfz38_3);(try clear hfz4_0);(try clear hfz4_1);(try clear hfz4_2);(try clear hfz4_3)
        (try clear BK126)
        obtain ⟨x66_4,rfl,HA,HK4,BK126,HB⟩:=hrel
        cases gk with
        | zero=>exact absurd HA.out (by simp [qc.l2])
        | succ k4=>
         have H:=HA.out
         clear HA
         simp only [qc.l2] at H
         by_cases c39:x66_4<(l0_3.length:Int)
         ·rw [if_pos c39] at H
          have c39b0:=decide_eq_true c39
          clear c39
          by_cases c40:0≤x66_4
          ·rw [if_pos c40] at H
           have c40b0:=decide_eq_true c40
           clear c40
           by_cases c41:x66_4<(l0_3.length:Int)
           ·rw [if_pos c41] at H
            have c41b0:=decide_eq_true c41
            clear c41
            replace H:=Option.bind_eq_some_iff.mp H
            obtain ⟨t134,A420,H⟩:=H
            replace H:(if t134=true then(qc.l2 k4 (l0_1.length:Int) l0_3 (l0_3.length:Int) (wrap64 (x66_4+1)) a0_0 l0_1 l0_2 l0_3) else (some false))=some r:=H
            have A42:=zq.mk A420
            clear A420
            by_cases c43:t134=true
            ·subst c43
             rw [if_pos rfl] at H
             have H':=zq.mk H
             clear H
             have p132:0≤(x66_4:Int):=dt
             have q132:x66_4<(l0_3.length:Int):=dt
             obtain ⟨ad132,A132_1,c132_1,e132,hx132_0,hx132_1,hl132_1,hi132_1⟩:=zvt HR0_3.out x66_4 p132 q132
             cases e132
             replace hx132_0:=(HB.out.cell (World.block_lt_of_cell? w _ hx132_0)).trans hx132_0
             replace hx132_1:=(HB.out.cell (World.block_lt_of_cell? w _ hx132_1)).trans hx132_1
             have HR132_1:=zq.mk hi132_1
             have HC132_1:=zq.mk hl132_1
             clear hi132_1 hl132_1
             replace p132:=eq_true p132
             replace q132:=eq_true q132
             go_wp2_with (first|((with_reducible refine qr (N:=9) rfl ?_);(try(refine ql (by rfl) ?_;dsimp only));refine qm ?hg (N:=9) ?hd (cs:=#[.string (⟨#[]⟩:ByteArray),.slice none 0 0]) (t:=96) ?hr ?_;(case hd=>rfl);(case hg=>rfl);(case hr=>first|(go_simp;done)|(go_simp;rfl));intro gb133 hg w44 hbox hb;have BK133:=zq.mk (hbox);have GW133:=zq.mk ((by rw [hg];exact(zw bw):w.heap.size≤gb133));have GE133:=zq.mk ((by rw [hg];exact(zw bw):w.heap.size≤gb133));replace HB:=zq.mk (zn bw hb);have NB126_133:=zq.mk ((by rw [hg];exact Nat.ne_of_lt (zq3 (g:=gb126) (o:=.cells #[.string a0_0,.slice A0_1 l0_1.length c0_1,.slice A0_2 l0_2.length c0_2,.slice (some ad132) l0_3.length c0_3] 61 (0,0)) (up BK126.out)):gb126≠gb133));have NB133_126:=zq.mk ((by rw [hg];exact Nat.ne_of_gt (zq3 (g:=gb126) (o:=.cells #[.string a0_0,.slice A0_1 l0_1.length c0_1,.slice A0_2 l0_2.length c0_2,.slice (some ad132) l0_3.length c0_3] 61 (0,0)) (up BK126.out)):gb133≠gb126));replace BK126:=zq.mk (ze (g:=gb126) (o:=.cells #[.string a0_0,.slice A0_1 l0_1.length c0_1,.slice A0_2 l0_2.length c0_2,.slice (some ad132) l0_3.length c0_3] 61 (0,0)) (up BK126.out) hb);clear hb hbox hg;have hnb45:=NB133_126.out;have hnc45:=NB126_133.out;obtain ⟨hcz46_0,hcz46_1,hfz46_0,hfz46_1⟩:=zji BK133.out)|((with_reducible refine qh (f:=114) rfl ?_);refine zqn (some 73) rfl rfl Tryd.func114 (by kernel_rfl) rfl #[.slice A132_1 ((zqi l0_3 x66_4).f1).length c132_1,.int .i64 (l0_1.length:Int)] rfl gs ?_;(with_reducible refine(zqa.calls k4 _ _ ((zqi l0_3 x66_4).f1) (l0_1.length:Int) true _ ?side1 ?side2 A42.out).mono ?_);(case side1=>exact Kd.qu HR132_1.out bw);(case side2=>exact HC132_1.out);rintro e w47 ⟨rfl,hb⟩;refine⟨_,rfl,?_⟩;replace BK126:=zq.mk (ze (g:=gb126) (o:=.cells #[.string a0_0,.slice A0_1 l0_1.length c0_1,.slice A0_2 l0_2.length c0_2,.slice (some ad132) l0_3.length c0_3] 61 (0,0)) (by(with_reducible repeat(first|refine zz ?_ _|refine zk ?_|refine zj ?_ _));refine zqf ?_ NB126_133.out _;(with_reducible repeat(first|refine zz ?_ _|refine zk ?_|refine zj ?_ _));refine zqf ?_ NB126_133.out _;(with_reducible repeat(first|refine zz ?_ _|refine zk ?_|refine zj ?_ _));exact BK126.out) hb);replace BK133:=zq.mk (ze (g:=gb133) (o:=.cells #[.string ((zqi l0_3 x66_4).f0),.slice A132_1 ((zqi l0_3 x66_4).f1).length c132_1] 96 (0,0)) (by(with_reducible repeat(first|refine zz ?_ _|refine zk ?_|refine zj ?_ _));refine qw (cs:=#[.string ((zqi l0_3 x66_4).f0),.slice none 0 0]) ?_ 1 _ rfl;(with_reducible repeat(first|refine zz ?_ _|refine zk ?_|refine zj ?_ _));refine qw (cs:=#[.string (⟨#[]⟩:ByteArray),.slice none 0 0]) ?_ 0 _ rfl;(with_reducible repeat(first|refine zz ?_ _|refine zk ?_|refine zj ?_ _));exact BK133.out) hb);replace HB:=zq.mk (zn bw hb);(try clear hb);(try clear hb2);(try clear hk);(try clear hi)))
             go_roundg k4
             case measure=>have:=HJ1.out;have:=HK2.out;have:=HK3.out;have:=HK4.out;omega
             case rel=>exact⟨(wrap64 (x66_4+1)),vr,H',⟨by have:=HJ1.out;have:=HK2.out;have:=HK3.out;have:=HK4.out;omega⟩,⟨by(with_reducible repeat(first|refine zz ?_ _|refine zk ?_|refine zj ?_ _));exact BK126.out⟩,⟨bw⟩⟩
            replace c43:=Bool.eq_false_iff.mpr c43
            subst c43
            rw [if_neg (show ¬ (false=true) by decide)] at H
            obtain rfl:=Option.some.inj H
            have p132:0≤(x66_4:Int):=dt
            have q132:x66_4<(l0_3.length:Int):=dt
            obtain ⟨ad132,A132_1,c132_1,e132,hx132_0,hx132_1,hl132_1,hi132_1⟩:=zvt HR0_3.out x66_4 p132 q132
            cases e132
            replace hx132_0:=(HB.out.cell (World.block_lt_of_cell? w _ hx132_0)).trans hx132_0
            replace hx132_1:=(HB.out.cell (World.block_lt_of_cell? w _ hx132_1)).trans hx132_1
            have HR132_1:=zq.mk hi132_1
            have HC132_1:=zq.mk hl132_1
            clear hi132_1 hl132_1
            replace p132:=eq_true p132
            replace q132:=eq_true q132
            go_wp2_with (first|((with_reducible refine qr (N:=9) rfl ?_);(try(refine ql (by rfl) ?_;dsimp only));refine qm ?hg (N:=9) ?hd (cs:=#[.string (⟨#[]⟩:ByteArray),.slice none 0 0]) (t:=96) ?hr ?_;(case hd=>rfl);(case hg=>rfl);(case hr=>first|(go_simp;done)|(go_simp;rfl));intro gb133 hg w48 hbox hb;have BK133:=zq.mk (hbox);have GW133:=zq.mk ((by rw [hg];exact(zw bw):w.heap.size≤gb133));have GE133:=zq.mk ((by rw [hg];exact(zw bw):w.heap.size≤gb133));replace HB:=zq.mk (zn bw hb);have NB126_133:=zq.mk ((by rw [hg];exact Nat.ne_of_lt (zq3 (g:=gb126) (o:=.cells #[.string a0_0,.slice A0_1 l0_1.length c0_1,.slice A0_2 l0_2.length c0_2,.slice (some ad132) l0_3.length c0_3] 61 (0,0)) (up BK126.out)):gb126≠gb133));have NB133_126:=zq.mk ((by rw [hg];exact Nat.ne_of_gt (zq3 (g:=gb126) (o:=.cells #[.string a0_0,.slice A0_1 l0_1.length c0_1,.slice A0_2 l0_2.length c0_2,.slice (some ad132) l0_3.length c0_3] 61 (0,0)) (up BK126.out)):gb133≠gb126));replace BK126:=zq.mk (ze (g:=gb126) (o:=.cells #[.string a0_0,.slice A0_1 l0_1.length c0_1,.slice A0_2 l0_2.length c0_2,.slice (some ad132) l0_3.length c0_3] 61 (0,0)) (up BK126.out) hb);clear hb hbox hg;have hnb49:=NB133_126.out;have hnc49:=NB126_133.out;obtain ⟨hcz50_0,hcz50_1,hfz50_0,hfz50_1⟩:=zji BK133.out)|((with_reducible refine qh (f:=114) rfl ?_);refine zqn (some 73) rfl rfl Tryd.func114 (by kernel_rfl) rfl #[.slice A132_1 ((zqi l0_3 x66_4).f1).length c132_1,.int .i64 (l0_1.length:Int)] rfl gs ?_;(with_reducible refine(zqa.calls k4 _ _ ((zqi l0_3 x66_4).f1) (l0_1.length:Int) false _ ?side1 ?side2 A42.out).mono ?_);(case side1=>exact Kd.qu HR132_1.out bw);(case side2=>exact HC132_1.out);rintro e w51 ⟨rfl,hb⟩;refine⟨_,rfl,?_⟩;replace BK126:=zq.mk (ze (g:=gb126) (o:=.cells #[.string a0_0,.slice A0_1 l0_1.length c0_1,.slice A0_2 l0_2.length c0_2,.slice (some ad132) l0_3.length c0_3] 61 (0,0)) (by(with_reducible repeat(first|refine zz ?_ _|refine zk ?_|refine zj ?_ _));refine zqf ?_ NB126_133.out _;(with_reducible repeat(first|refine zz ?_ _|refine zk ?_|refine zj ?_ _));refine zqf ?_ NB126_133.out _;(with_reducible repeat(first|refine zz ?_ _|refine zk ?_|refine zj ?_ _));exact BK126.out) hb);replace BK133:=zq.mk (ze (g:=gb133) (o:=.cells #[.string ((zqi l0_3 x66_4).f0),.slice A132_1 ((zqi l0_3 x66_4).f1).length c132_1] 96 (0,0)) (by(with_reducible repeat(first|refine zz ?_ _|refine zk ?_|refine zj ?_ _));refine qw (cs:=#[.string ((zqi l0_3 x66_4).f0),.slice none 0 0]) ?_ 1 _ rfl;(with_reducible repeat(first|refine zz ?_ _|refine zk ?_|refine zj ?_ _));refine qw (cs:=#[.string (⟨#[]⟩:ByteArray),.slice none 0 0]) ?_ 0 _ rfl;(with_reducible repeat(first|refine zz ?_ _|refine zk ?_|refine zj ?_ _));exact BK133.out) hb);replace HB:=zq.mk (zn bw hb);(try clear hb);(try clear hb2);(try clear hk);(try clear hi)))
            go_ret
            exact⟨by first|rfl|(simp [zg,zy] <;> rfl)|(simp [*,zg,zy] <;> rfl),bw⟩
           rw [if_neg c41] at H
           exact absurd H (by simp)
          rw [if_neg c40] at H
          exact absurd H (by simp)
         rw [if_neg c39] at H
         have c39b0:=decide_eq_false c39
         clear c39
         replace H:=Option.bind_eq_some_iff.mp H
         obtain ⟨t135,A520,H⟩:=H
         replace H:((qo.f k4 t135).bind fun t138=>(if t138=true then((zj9.f l0_3).bind fun t139=>((qo.f k4 t139).bind fun t142=>(some t142))) else (some false)))=some r:=H
         have A52:=zq.mk A520
         clear A520
         replace H:=Option.bind_eq_some_iff.mp H
         obtain ⟨t138,A530,H⟩:=H
         replace H:(if t138=true then((zj9.f l0_3).bind fun t139=>((qo.f k4 t139).bind fun t142=>(some t142))) else (some false))=some r:=H
         have A53:=zq.mk A530
         clear A530
         by_cases c54:t138=true
         ·subst c54
          rw [if_pos rfl] at H
          replace H:=Option.bind_eq_some_iff.mp H
          obtain ⟨t139,A550,H⟩:=H
          replace H:((qo.f k4 t139).bind fun t142=>(some t142))=some r:=H
          have A55:=zq.mk A550
          clear A550
          replace H:=Option.bind_eq_some_iff.mp H
          obtain ⟨t142,A560,H⟩:=H
          replace H:(some t142)=some r:=H
          have A56:=zq.mk A560
          clear A560
          obtain rfl:=Option.some.inj H
          obtain ⟨hcz57_0,hcz57_1,hcz57_2,hcz57_3,hfz57_0,hfz57_1,hfz57_2,hfz57_3⟩:=zqv BK126.out
          go_wp2_with (first|((with_reducible refine qh (f:=115) rfl ?_);refine zqn (some 78) rfl rfl Tryd.func115 (by kernel_rfl) rfl #[.slice A0_1 l0_1.length c0_1,.func (.func 116) #[] #[]] rfl gs ?_;(with_reducible refine(zj1.calls _ _ l0_1 t135 _ ?side1 ?side2 A52.out).mono ?_);(case side1=>exact Kd.cu (Kd.qu HR0_1.out HB.out));(case side2=>exact HC0_1.out);rintro e w58 ⟨v136,rfl,ho0,hb⟩;refine⟨_,rfl,?_⟩;have HO137:=zq.mk (Kd.zjs ho0 (zw bw));replace BK126:=zq.mk (ze (g:=gb126) (o:=.cells #[.string a0_0,.slice A0_1 l0_1.length c0_1,.slice A0_2 l0_2.length c0_2,.slice A0_3 l0_3.length c0_3] 61 (0,0)) (up BK126.out) hb);replace HB:=zq.mk (zn bw hb);(try clear hb);(try clear hb2);(try clear hk);(try clear hi);(try clear ho0);obtain ⟨Ao59,co59,eo59⟩:=Kd.zje HO137.out;subst eo59)|((with_reducible refine qh (f:=93) rfl ?_);refine zqn (some 79) rfl rfl Tryd.func93 (by kernel_rfl) rfl #[.slice Ao59 t135.length co59] rfl gs ?_;(with_reducible refine(qo.calls k4 _ _ t135 true _ ?side1 ?side2 ?side3 A53.out).mono ?_);(case side1=>exact Kd.cu (Kd.zqk HO137.out).2.2);(case side2=>exact(Kd.zqk HO137.out).2.1);(case side3=>exact LD.below HLD.out (by first|(with_reducible exact Below.refl _ _)|((repeat(first|(with_reducible exact Below.refl _ _)|(with_reducible apply zl)|(with_reducible apply zr)|(with_reducible apply qx)));done)|exact bw));rintro e w60 ⟨rfl,hb⟩;refine⟨_,rfl,?_⟩;replace HO137:=zq.mk (Kd.zq4 (Kd.ru HO137.out) hb);replace BK126:=zq.mk (ze (g:=gb126) (o:=.cells #[.string a0_0,.slice A0_1 l0_1.length c0_1,.slice A0_2 l0_2.length c0_2,.slice A0_3 l0_3.length c0_3] 61 (0,0)) (up BK126.out) hb);replace HB:=zq.mk (zn bw hb);(try clear hb);(try clear hb2);(try clear hk);(try clear hi);obtain ⟨hcz61_0,hcz61_1,hcz61_2,hcz61_3,hfz61_0,hfz61_1,hfz61_2,hfz61_3⟩:=zqv BK126.out)|(go_at_call 117;(with_reducible refine(zj9.calls _ _ l0_3 t139 _ ?side1 ?side2 A55.out).mono ?_);(case side1=>exact Kd.cu (Kd.qu HR0_3.out HB.out));(case side2=>exact HC0_3.out);rintro e w62 ⟨v140,rfl,ho0,hb⟩;have HO141:=zq.mk (Kd.zjs (Kd.R_new' ho0 (Kd.R_lt (Kd.ru HO137.out))) (zw bw));replace HO137:=zq.mk (Kd.zk0 (Kd.ru HO137.out) (Kd.zxh ho0) hb);replace BK126:=zq.mk (ze (g:=gb126) (o:=.cells #[.string a0_0,.slice A0_1 l0_1.length c0_1,.slice A0_2 l0_2.length c0_2,.slice A0_3 l0_3.length c0_3] 61 (0,0)) (up BK126.out) hb);replace HB:=zq.mk (zn bw hb);(try clear hb);(try clear hb2);(try clear hk);(try clear hi);(try clear ho0);obtain ⟨Ao63,co63,eo63⟩:=Kd.zje HO141.out;subst eo63)|(go_at_call 93;(with_reducible refine(qo.calls k4 _ _ t139 t142 _ ?side1 ?side2 ?side3 A56.out).mono ?_);(case side1=>exact Kd.cu (Kd.zqk HO141.out).2.2);(case side2=>exact(Kd.zqk HO141.out).2.1);(case side3=>exact LD.below HLD.out (by first|(with_reducible exact Below.refl _ _)|((repeat(first|(with_reducible exact Below.refl _ _)|(with_reducible apply zl)|(with_reducible apply zr)|(with_reducible apply qx)));done)|exact bw));rintro e w64 ⟨rfl,hb⟩;replace HO137:=zq.mk (Kd.zq4 (Kd.ru HO137.out) hb);replace HO141:=zq.mk (Kd.zq4 (Kd.ru HO141.out) hb);replace BK126:=zq.mk (ze (g:=gb126) (o:=.cells #[.string a0_0,.slice A0_1 l0_1.length c0_1,.slice A0_2 l0_2.length c0_2,.slice A0_3 l0_3.length c0_3] 61 (0,0)) (up BK126.out) hb);replace HB:=zq.mk (zn bw hb);(try clear hb);(try clear hb2);(try clear hk);(try clear hi)))
          go_ret
          exact⟨by first|rfl|(simp [zg,zy] <;> rfl)|(simp [*,zg,zy] <;> rfl),bw⟩
         replace c54:=Bool.eq_false_iff.mpr c54
         subst c54
         rw [if_neg (show ¬ (false=true) by decide)] at H
         obtain rfl:=Option.some.inj H
         obtain ⟨hcz65_0,hcz65_1,hcz65_2,hcz65_3,hfz65_0,hfz65_1,hfz65_2,hfz65_3⟩:=zqv BK126.out
         go_wp2_with (first|((with_reducible refine qh (f:=115) rfl ?_);refine zqn (some 78) rfl rfl Tryd.func115 (by kernel_rfl) rfl #[.slice A0_1 l0_1.length c0_1,.func (.func 116) #[] #[]] rfl gs ?_;(with_reducible refine(zj1.calls _ _ l0_1 t135 _ ?side1 ?side2 A52.out).mono ?_);(case side1=>exact Kd.cu (Kd.qu HR0_1.out HB.out));(case side2=>exact HC0_1.out);rintro e w66 ⟨v136,rfl,ho0,hb⟩;refine⟨_,rfl,?_⟩;have HO137:=zq.mk (Kd.zjs ho0 (zw bw));replace BK126:=zq.mk (ze (g:=gb126) (o:=.cells #[.string a0_0,.slice A0_1 l0_1.length c0_1,.slice A0_2 l0_2.length c0_2,.slice A0_3 l0_3.length c0_3] 61 (0,0)) (up BK126.out) hb);replace HB:=zq.mk (zn bw hb);(try clear hb);(try clear hb2);(try clear hk);(try clear hi);(try clear ho0);obtain ⟨Ao67,co67,eo67⟩:=Kd.zje HO137.out;subst eo67)|((with_reducible refine qh (f:=93) rfl ?_);refine zqn (some 79) rfl rfl Tryd.func93 (by kernel_rfl) rfl #[.slice Ao67 t135.length co67] rfl gs ?_;(with_reducible refine(qo.calls k4 _ _ t135 false _ ?side1 ?side2 ?side3 A53.out).mono ?_);(case side1=>exact Kd.cu (Kd.zqk HO137.out).2.2);(case side2=>exact(Kd.zqk HO137.out).2.1);(case side3=>exact LD.below HLD.out (by first|(with_reducible exact Below.refl _ _)|((repeat(first|(with_reducible exact Below.refl _ _)|(with_reducible apply zl)|(with_reducible apply zr)|(with_reducible apply qx)));done)|exact bw));rintro e w68 ⟨rfl,hb⟩;refine⟨_,rfl,?_⟩;replace HO137:=zq.mk (Kd.zq4 (Kd.ru HO137.out) hb);replace BK126:=zq.mk (ze (g:=gb126) (o:=.cells #[.string a0_0,.slice A0_1 l0_1.length c0_1,.slice A0_2 l0_2.length c0_2,.slice A0_3 l0_3.length c0_3] 61 (0,0)) (up BK126.out) hb);replace HB:=zq.mk (zn bw hb);(try clear hb);(try clear hb2);(try clear hk);(try clear hi)))
         go_ret
         exact⟨by first|rfl|(simp [zg,zy] <;> rfl)|(simp [*,zg,zy] <;> rfl),bw⟩

end Go.Proofs.YthhejedfjgikdaaDoor.PRowReads
