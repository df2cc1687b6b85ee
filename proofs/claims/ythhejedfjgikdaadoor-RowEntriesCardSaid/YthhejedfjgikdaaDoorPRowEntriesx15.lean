-- Written by wip/pp of this repo (over the kit's print, with additions of this session); Lean checks every line.
import Derived.Test.YthhejedfjgikdaaDoorPRowEntriesx14
namespace Go.Proofs.YthhejedfjgikdaaDoor.PRowEntries
open Go.RowKit Go.Proofs.YthhejedfjgikdaaDoorW.PrintWords Go.Proofs.YthhejedfjgikdaaDoorW.PrintLast Go.Proofs.YthhejedfjgikdaaDoorW.PrintMore
attribute [local go_sem] zxq zxo zx0 zxz zxg zxf zxp zxn   -- for this text's walks alone
set_option linter.unusedVariables false
set_option linter.unusedSimpArgs false

/-! ### zjk: function 31 -/
mutual
def zjk.l0:Nat→List (S61)→Int→Option (Bool)
 | 0,_,_=>none
 | k+1,x0,x3=>if x3<(x0.length:Int) then(if 0≤x3 then((zjb.f k ((zqo x0 x3).f0) ((zqo x0 x3).f1) ((zqo x0 x3).f2) ((zqo x0 x3).f3)).bind fun t230=>(if t230=true then(zjk.l1 k x0 x3 0) else (some false))) else (none)) else (some true)
def zjk.l1:Nat→List (S61)→Int→Int→Option (Bool)
 | 0,_,_,_=>none
 | k+1,x0,x3,x4=>if x4<x3 then(if 0≤x4 then(if x4<(x0.length:Int) then(if 0≤x3 then(if x3<(x0.length:Int) then(if((zqo x0 x4).f0).toList=((zqo x0 x3).f0).toList then(some false) else (zjk.l1 k x0 x3 (wrap64 (x4+1)))) else (none)) else (none)) else (none)) else (none)) else (zjk.l0 k x0 (wrap64 (x3+1)))
end
def zjk.f (k:Nat) (l0:List (S61)):Option (Bool):=if(l0.length:Int) > 4 then(some false) else (zjk.l0 k l0 0)
theorem zjk.mono_l:∀ k,(∀ y0 y1,LeO (zjk.l0 k y0 y1) (zjk.l0 (k+1) y0 y1))∧(∀ y0 y1 y2,LeO (zjk.l1 k y0 y1 y2) (zjk.l1 (k+1) y0 y1 y2))
 | 0=>⟨fun _ _ r h=>by simp [zjk.l0] at h,fun _ _ _ r h=>by simp [zjk.l1] at h⟩
 | k+1=>by
  obtain ⟨ih0,ih1⟩:=zjk.mono_l k
  refine⟨?_,?_⟩
  ·intro y0 y1
   unfold zjk.l0
   repeat' first
   | (with_reducible first|exact ih0 _ _|exact ih1 _ _ _|exact zjb.mono _ _ _ _ _|exact LeO.refl _|exact LeO.none _|refine LeO.ite ?_ ?_|refine LeO.bind ?_ (fun _=>?_))
   | exact ih0 _ _
   | exact ih1 _ _ _
   | exact zjb.mono _ _ _ _ _
   | exact LeO.none _
   | refine LeO.ite ?_ ?_
   | refine LeO.bind ?_ (fun _=>?_)
  ·intro y0 y1 y2
   unfold zjk.l1
   repeat' first
   | (with_reducible first|exact ih0 _ _|exact ih1 _ _ _|exact zjb.mono _ _ _ _ _|exact LeO.refl _|exact LeO.none _|refine LeO.ite ?_ ?_|refine LeO.bind ?_ (fun _=>?_))
   | exact ih0 _ _
   | exact ih1 _ _ _
   | exact zjb.mono _ _ _ _ _
   | exact LeO.none _
   | refine LeO.ite ?_ ?_
   | refine LeO.bind ?_ (fun _=>?_)
theorem zjk.mono:∀ a0 k,LeO (zjk.f k a0) (zjk.f (k+1) a0):=by
 intro a0 k
 obtain ⟨ih0,ih1⟩:=zjk.mono_l k
 unfold zjk.f
 repeat' first
   | (with_reducible first|exact ih0 _ _|exact ih1 _ _ _|exact zjb.mono _ _ _ _ _|exact LeO.refl _|exact LeO.none _|refine LeO.ite ?_ ?_|refine LeO.bind ?_ (fun _=>?_))
   | exact ih0 _ _
   | exact ih1 _ _ _
   | exact zjb.mono _ _ _ _ _
   | exact LeO.none _
   | refine LeO.ite ?_ ?_
   | refine LeO.bind ?_ (fun _=>?_)
set_option maxHeartbeats 8000000 in
set_option maxRecDepth 100000 in
theorem zjk.calls (k:Nat) (A0:Option Addr) (c0:Nat) (l0:List (S61)) (r:Bool) (w:World) (hr0:Kd.C k61 w A0 l0.length l0) (hc0:l0.length≤c0) (h:zjk.f k l0=some r) :
  Calls Tryd.prog 31 #[.slice A0 l0.length c0] w fun e w'=>e = .returned (.bool r)∧Below w.heap.size w w':=by
 have hu61:=Tryd.underlying61
 have HR0:=zqd.mk hr0
 have HC0:=zqd.mk hc0
 clear hr0 hc0
 have HB:=zqd.mk (Below.refl w.heap.size w)
 have H:(if(l0.length:Int) > 4 then(some false) else (zjk.l0 k l0 0))=some r:=h
 clear h
 by_cases c2:(l0.length:Int) > 4
 ·rw [if_pos c2] at H
  have c2b0:decide (4<(l0.length:Int))=true:=decide_eq_true c2
  have c2b1:decide (4<l0.length)=true:=decide_eq_true (by omega)
  clear c2
  obtain rfl:=Option.some.inj H
  go_enter Tryd.func31,Tryd.ntmps31
  go_wp2
  repeat(go_quiet (fail);try go_wp2)
  go_ret
  exact⟨by first|rfl|(simp [zqm,zql] <;> rfl)|(simp [*,zqm,zql] <;> rfl),by repeat(first|(with_reducible first|exact HB.out|apply zqb|apply zqa|apply zqc)|exact HB.out)⟩
 ·rw [if_neg c2] at H
  have c2b0:decide (4<(l0.length:Int))=false:=decide_eq_false c2
  have c2b1:decide (4<l0.length)=false:=decide_eq_false (by omega)
  clear c2
  have H':=zqd.mk H
  clear H
  go_enter Tryd.func31,Tryd.ntmps31
  go_wp2
  repeat(go_quiet (fail);try go_wp2)
  go_loopg [3] k (fun kq v3 w' => ∃ (x3_1:Int),v3 = .int .i64 x3_1∧zqd (zjk.l0 kq l0 x3_1=some r)∧zqd (kq≤k)∧zqd (Below w.heap.size w w'))
  case atStart=>exact⟨(0),(by first|rfl|(simp;done)|(simp [*];done)|(generalize ByteArray.toList _=q_;cases q_ <;> rfl)),H',⟨Nat.le_refl _⟩,⟨by repeat(first|(with_reducible first|exact HB.out|apply zqb|apply zqa|apply zqc)|exact HB.out)⟩⟩
  case round=>
   clear H'
   try clear c2
   try clear c2b0
   try clear c2b1
   try clear p2
   obtain ⟨x3_1,rfl,HA,HK1,HB⟩:=hrel
   cases gk with
   | zero=>exact absurd HA.out (by simp [zjk.l0])
   | succ k1=>
    have H:=HA.out
    clear HA
    simp only [zjk.l0] at H
    by_cases c3:x3_1<(l0.length:Int)
    ·rw [if_pos c3] at H
     have c3b0:decide (x3_1<(l0.length:Int))=true:=decide_eq_true c3
     clear c3
     by_cases c4:0≤x3_1
     ·rw [if_pos c4] at H
      have c4b0:decide (0≤x3_1)=true:=decide_eq_true c4
      clear c4
      replace H:=Option.bind_eq_some_iff.mp H
      obtain ⟨t230,A50,H⟩:=H
      replace H:(if t230=true then(zjk.l1 k1 l0 x3_1 0) else (some false))=some r:=H
      have A5:=zqd.mk A50
      clear A50
      by_cases c6:t230=true
      ·subst c6
       have H1:(zjk.l1 k1 l0 x3_1 0)=some r:=by rw [if_pos rfl] at H;exact H
       clear H
       have H:=H1
       clear H1
       have H':=zqd.mk H
       clear H
       have p229:0≤(x3_1:Int):=of_decide_eq_true (by first|(with_reducible assumption)|assumption)
       have q229:x3_1<(l0.length:Int):=of_decide_eq_true (by first|(with_reducible assumption)|assumption)
       obtain ⟨ad229,A229_1,c229_1,A229_2,c229_2,A229_3,c229_3,e229,hx229_0,hx229_1,hx229_2,hx229_3,hl229_1,hi229_1,hl229_2,hi229_2,hl229_3,hi229_3⟩:=at_T61 HR0.out x3_1 p229 q229
       cases e229
       replace hx229_0:=(HB.out.cell (World.block_lt_of_cell? w _ hx229_0)).trans hx229_0
       replace hx229_1:=(HB.out.cell (World.block_lt_of_cell? w _ hx229_1)).trans hx229_1
       replace hx229_2:=(HB.out.cell (World.block_lt_of_cell? w _ hx229_2)).trans hx229_2
       replace hx229_3:=(HB.out.cell (World.block_lt_of_cell? w _ hx229_3)).trans hx229_3
       have HR229_1:=zqd.mk hi229_1
       have HC229_1:=zqd.mk hl229_1
       clear hi229_1 hl229_1
       have HR229_2:=zqd.mk hi229_2
       have HC229_2:=zqd.mk hl229_2
       clear hi229_2 hl229_2
       have HR229_3:=zqd.mk hi229_3
       have HC229_3:=zqd.mk hl229_3
       clear hi229_3 hl229_3
       replace p229:=eq_true p229
       replace q229:=eq_true q229
       go_wp2_with (first|(go_at_call 60;(with_reducible refine(zjb.calls k1 ((zqo l0 x3_1).f0) _ _ ((zqo l0 x3_1).f1) _ _ ((zqo l0 x3_1).f2) _ _ ((zqo l0 x3_1).f3) true _ ?side1 ?side2 ?side3 ?side4 ?side5 ?side6 A5.out).mono ?_);(case side1=>repeat(first|exact(Kd.zq3 HR229_1.out HB.out)|(with_reducible refine Kd.zqw ?_ _)|(with_reducible refine Kd.zqy ?_ _)|(with_reducible refine Kd.zq2 ?_)));(case side2=>exact HC229_1.out);(case side3=>repeat(first|exact(Kd.zq3 HR229_2.out HB.out)|(with_reducible refine Kd.zqw ?_ _)|(with_reducible refine Kd.zqy ?_ _)|(with_reducible refine Kd.zq2 ?_)));(case side4=>exact HC229_2.out);(case side5=>repeat(first|exact(Kd.zq3 HR229_3.out HB.out)|(with_reducible refine Kd.zqw ?_ _)|(with_reducible refine Kd.zqy ?_ _)|(with_reducible refine Kd.zq2 ?_)));(case side6=>exact HC229_3.out);rintro e w7 ⟨rfl,hb⟩;have n0_:=zqd.mk (zqn (by repeat(first|(with_reducible first|exact HB.out|apply zqb|apply zqa|apply zqc)|exact HB.out)) hb);clear HB;have HB:=n0_;clear n0_;(try clear hb);(try clear hb2);(try clear hk);(try clear hi)))
       repeat(go_quiet (first|(go_at_call 60;(with_reducible refine(zjb.calls k1 ((zqo l0 x3_1).f0) _ _ ((zqo l0 x3_1).f1) _ _ ((zqo l0 x3_1).f2) _ _ ((zqo l0 x3_1).f3) true _ ?side1 ?side2 ?side3 ?side4 ?side5 ?side6 A5.out).mono ?_);(case side1=>repeat(first|exact(Kd.zq3 HR229_1.out HB.out)|(with_reducible refine Kd.zqw ?_ _)|(with_reducible refine Kd.zqy ?_ _)|(with_reducible refine Kd.zq2 ?_)));(case side2=>exact HC229_1.out);(case side3=>repeat(first|exact(Kd.zq3 HR229_2.out HB.out)|(with_reducible refine Kd.zqw ?_ _)|(with_reducible refine Kd.zqy ?_ _)|(with_reducible refine Kd.zq2 ?_)));(case side4=>exact HC229_2.out);(case side5=>repeat(first|exact(Kd.zq3 HR229_3.out HB.out)|(with_reducible refine Kd.zqw ?_ _)|(with_reducible refine Kd.zqy ?_ _)|(with_reducible refine Kd.zq2 ?_)));(case side6=>exact HC229_3.out);rintro e w7 ⟨rfl,hb⟩;have n0_:=zqd.mk (zqn (by repeat(first|(with_reducible first|exact HB.out|apply zqb|apply zqa|apply zqc)|exact HB.out)) hb);clear HB;have HB:=n0_;clear n0_;(try clear hb);(try clear hb2);(try clear hk);(try clear hi)));try go_wp2_with (first|(go_at_call 60;(with_reducible refine(zjb.calls k1 ((zqo l0 x3_1).f0) _ _ ((zqo l0 x3_1).f1) _ _ ((zqo l0 x3_1).f2) _ _ ((zqo l0 x3_1).f3) true _ ?side1 ?side2 ?side3 ?side4 ?side5 ?side6 A5.out).mono ?_);(case side1=>repeat(first|exact(Kd.zq3 HR229_1.out HB.out)|(with_reducible refine Kd.zqw ?_ _)|(with_reducible refine Kd.zqy ?_ _)|(with_reducible refine Kd.zq2 ?_)));(case side2=>exact HC229_1.out);(case side3=>repeat(first|exact(Kd.zq3 HR229_2.out HB.out)|(with_reducible refine Kd.zqw ?_ _)|(with_reducible refine Kd.zqy ?_ _)|(with_reducible refine Kd.zq2 ?_)));(case side4=>exact HC229_2.out);(case side5=>repeat(first|exact(Kd.zq3 HR229_3.out HB.out)|(with_reducible refine Kd.zqw ?_ _)|(with_reducible refine Kd.zqy ?_ _)|(with_reducible refine Kd.zq2 ?_)));(case side6=>exact HC229_3.out);rintro e w7 ⟨rfl,hb⟩;have n0_:=zqd.mk (zqn (by repeat(first|(with_reducible first|exact HB.out|apply zqb|apply zqa|apply zqc)|exact HB.out)) hb);clear HB;have HB:=n0_;clear n0_;(try clear hb);(try clear hb2);(try clear hk);(try clear hi))))
       go_loopg [4] k1 (fun kq v4 w' => ∃ (x4_2:Int),v4 = .int .i64 x4_2∧zqd (zjk.l1 kq l0 x3_1 x4_2=some r)∧zqd (kq≤k1)∧zqd (Below w.heap.size w w'))
       case atStart=>exact⟨(0),(by first|rfl|(simp;done)|(simp [*];done)|(generalize ByteArray.toList _=q_;cases q_ <;> rfl)),H',⟨Nat.le_refl _⟩,⟨by repeat(first|(with_reducible first|exact HB.out|apply zqb|apply zqa|apply zqc)|exact HB.out)⟩⟩
       case round=>
        clear H'
        try clear c2
        try clear c2b0
        try clear c2b1
        try clear p2
        try clear q2
        try clear hx2
        try clear c3
        try clear c3b0
        try clear c4
        try clear c4b0
        try clear c6
        try clear hx229_0
        try clear hx229_1
        try clear hx229_2
        try clear hx229_3
        try clear p2
        try clear p229
        try clear q229
        obtain ⟨x4_2,rfl,HA,HK2,HB⟩:=hrel
        cases gk with
        | zero=>exact absurd HA.out (by simp [zjk.l1])
        | succ k2=>
         have H:=HA.out
         clear HA
         simp only [zjk.l1] at H
         by_cases c8:x4_2<x3_1
         ·rw [if_pos c8] at H
          have c8b0:decide (x4_2<x3_1)=true:=decide_eq_true c8
          clear c8
          by_cases c9:0≤x4_2
          ·rw [if_pos c9] at H
           have c9b0:decide (0≤x4_2)=true:=decide_eq_true c9
           clear c9
           by_cases c10:x4_2<(l0.length:Int)
           ·rw [if_pos c10] at H
            have c10b0:decide (x4_2<(l0.length:Int))=true:=decide_eq_true c10
            clear c10
            by_cases c11:0≤x3_1
            ·rw [if_pos c11] at H
             have c11b0:decide (0≤x3_1)=true:=decide_eq_true c11
             clear c11
             by_cases c12:x3_1<(l0.length:Int)
             ·rw [if_pos c12] at H
              have c12b0:decide (x3_1<(l0.length:Int))=true:=decide_eq_true c12
              clear c12
              by_cases c13:((zqo l0 x4_2).f0).toList=((zqo l0 x3_1).f0).toList
              ·rw [if_pos c13] at H
               have c13b0:(((zqo l0 x4_2).f0).toList == ((zqo l0 x3_1).f0).toList)=true:=beq_iff_eq.mpr c13
               have c13b1:(((zqo l0 x4_2).f0).toList != ((zqo l0 x3_1).f0).toList)=false:=bne_eq_false_iff_eq.mpr c13
               clear c13
               obtain rfl:=Option.some.inj H
               have p231:0≤(x4_2:Int):=of_decide_eq_true (by first|(with_reducible assumption)|assumption)
               have q231:x4_2<(l0.length:Int):=of_decide_eq_true (by first|(with_reducible assumption)|assumption)
               obtain ⟨ad231,A231_1,c231_1,A231_2,c231_2,A231_3,c231_3,e231,hx231_0,hx231_1,hx231_2,hx231_3,hl231_1,hi231_1,hl231_2,hi231_2,hl231_3,hi231_3⟩:=at_T61 HR0.out x4_2 p231 q231
               obtain rfl:ad229=ad231:=(by injection e231)
               replace hx231_0:=(HB.out.cell (World.block_lt_of_cell? w _ hx231_0)).trans hx231_0
               replace hx231_1:=(HB.out.cell (World.block_lt_of_cell? w _ hx231_1)).trans hx231_1
               replace hx231_2:=(HB.out.cell (World.block_lt_of_cell? w _ hx231_2)).trans hx231_2
               replace hx231_3:=(HB.out.cell (World.block_lt_of_cell? w _ hx231_3)).trans hx231_3
               have HR231_1:=zqd.mk hi231_1
               have HC231_1:=zqd.mk hl231_1
               clear hi231_1 hl231_1
               have HR231_2:=zqd.mk hi231_2
               have HC231_2:=zqd.mk hl231_2
               clear hi231_2 hl231_2
               have HR231_3:=zqd.mk hi231_3
               have HC231_3:=zqd.mk hl231_3
               clear hi231_3 hl231_3
               replace p231:=eq_true p231
               replace q231:=eq_true q231
               have p232:0≤(x3_1:Int):=of_decide_eq_true (by first|(with_reducible assumption)|assumption)
               have q232:x3_1<(l0.length:Int):=of_decide_eq_true (by first|(with_reducible assumption)|assumption)
               obtain ⟨ad232,A232_1,c232_1,A232_2,c232_2,A232_3,c232_3,e232,hx232_0,hx232_1,hx232_2,hx232_3,hl232_1,hi232_1,hl232_2,hi232_2,hl232_3,hi232_3⟩:=at_T61 HR0.out x3_1 p232 q232
               obtain rfl:ad229=ad232:=(by injection e232)
               replace hx232_0:=(HB.out.cell (World.block_lt_of_cell? w _ hx232_0)).trans hx232_0
               replace hx232_1:=(HB.out.cell (World.block_lt_of_cell? w _ hx232_1)).trans hx232_1
               replace hx232_2:=(HB.out.cell (World.block_lt_of_cell? w _ hx232_2)).trans hx232_2
               replace hx232_3:=(HB.out.cell (World.block_lt_of_cell? w _ hx232_3)).trans hx232_3
               have HR232_1:=zqd.mk hi232_1
               have HC232_1:=zqd.mk hl232_1
               clear hi232_1 hl232_1
               have HR232_2:=zqd.mk hi232_2
               have HC232_2:=zqd.mk hl232_2
               clear hi232_2 hl232_2
               have HR232_3:=zqd.mk hi232_3
               have HC232_3:=zqd.mk hl232_3
               clear hi232_3 hl232_3
               replace p232:=eq_true p232
               replace q232:=eq_true q232
               go_wp2
               repeat(go_quiet (fail);try go_wp2)
               go_ret
               exact⟨by first|rfl|(simp [zqm,zql] <;> rfl)|(simp [*,zqm,zql] <;> rfl),by repeat(first|(with_reducible first|exact HB.out|apply zqb|apply zqa|apply zqc)|exact HB.out)⟩
              ·rw [if_neg c13] at H
               have c13b0:(((zqo l0 x4_2).f0).toList == ((zqo l0 x3_1).f0).toList)=false:=beq_eq_false_iff_ne.mpr c13
               have c13b1:(((zqo l0 x4_2).f0).toList != ((zqo l0 x3_1).f0).toList)=true:=bne_iff_ne.mpr c13
               have H':=zqd.mk H
               clear H
               have p231:0≤(x4_2:Int):=of_decide_eq_true (by first|(with_reducible assumption)|assumption)
               have q231:x4_2<(l0.length:Int):=of_decide_eq_true (by first|(with_reducible assumption)|assumption)
               obtain ⟨ad231,A231_1,c231_1,A231_2,c231_2,A231_3,c231_3,e231,hx231_0,hx231_1,hx231_2,hx231_3,hl231_1,hi231_1,hl231_2,hi231_2,hl231_3,hi231_3⟩:=at_T61 HR0.out x4_2 p231 q231
               obtain rfl:ad229=ad231:=(by injection e231)
               replace hx231_0:=(HB.out.cell (World.block_lt_of_cell? w _ hx231_0)).trans hx231_0
               replace hx231_1:=(HB.out.cell (World.block_lt_of_cell? w _ hx231_1)).trans hx231_1
               replace hx231_2:=(HB.out.cell (World.block_lt_of_cell? w _ hx231_2)).trans hx231_2
               replace hx231_3:=(HB.out.cell (World.block_lt_of_cell? w _ hx231_3)).trans hx231_3
               have HR231_1:=zqd.mk hi231_1
               have HC231_1:=zqd.mk hl231_1
               clear hi231_1 hl231_1
               have HR231_2:=zqd.mk hi231_2
               have HC231_2:=zqd.mk hl231_2
               clear hi231_2 hl231_2
               have HR231_3:=zqd.mk hi231_3
               have HC231_3:=zqd.mk hl231_3
               clear hi231_3 hl231_3
               replace p231:=eq_true p231
               replace q231:=eq_true q231
               have p232:0≤(x3_1:Int):=of_decide_eq_true (by first|(with_reducible assumption)|assumption)
               have q232:x3_1<(l0.length:Int):=of_decide_eq_true (by first|(with_reducible assumption)|assumption)
               obtain ⟨ad232,A232_1,c232_1,A232_2,c232_2,A232_3,c232_3,e232,hx232_0,hx232_1,hx232_2,hx232_3,hl232_1,hi232_1,hl232_2,hi232_2,hl232_3,hi232_3⟩:=at_T61 HR0.out x3_1 p232 q232
               obtain rfl:ad229=ad232:=(by injection e232)
               replace hx232_0:=(HB.out.cell (World.block_lt_of_cell? w _ hx232_0)).trans hx232_0
               replace hx232_1:=(HB.out.cell (World.block_lt_of_cell? w _ hx232_1)).trans hx232_1
               replace hx232_2:=(HB.out.cell (World.block_lt_of_cell? w _ hx232_2)).trans hx232_2
               replace hx232_3:=(HB.out.cell (World.block_lt_of_cell? w _ hx232_3)).trans hx232_3
               have HR232_1:=zqd.mk hi232_1
               have HC232_1:=zqd.mk hl232_1
               clear hi232_1 hl232_1
               have HR232_2:=zqd.mk hi232_2
               have HC232_2:=zqd.mk hl232_2
               clear hi232_2 hl232_2
               have HR232_3:=zqd.mk hi232_3
               have HC232_3:=zqd.mk hl232_3
               clear hi232_3 hl232_3
               replace p232:=eq_true p232
               replace q232:=eq_true q232
               go_wp2
               repeat(go_quiet (fail);try go_wp2)
               go_roundg k2
               case measure=>have:=HK1.out;have:=HK2.out;omega
               case rel=>exact⟨(wrap64 (x4_2+1)),(by first|rfl|(simp;done)|(simp [*];done)|(generalize ByteArray.toList _=q_;cases q_ <;> rfl)),H',⟨by have:=HK1.out;have:=HK2.out;omega⟩,⟨by repeat(first|(with_reducible first|exact HB.out|apply zqb|apply zqa|apply zqc)|exact HB.out)⟩⟩
             ·rw [if_neg c12] at H
              exact absurd H (by simp)
            ·rw [if_neg c11] at H
             exact absurd H (by simp)
           ·rw [if_neg c10] at H
            exact absurd H (by simp)
          ·rw [if_neg c9] at H
           exact absurd H (by simp)
         ·rw [if_neg c8] at H
          have c8b0:decide (x4_2<x3_1)=false:=decide_eq_false c8
          clear c8
          have H':=zqd.mk H
          clear H
          go_wp2
          repeat(go_quiet (fail);try go_wp2)
          go_roundg k2
          case measure=>have:=HK1.out;have:=HK2.out;omega
          case rel=>exact⟨(wrap64 (x3_1+1)),(by first|rfl|(simp;done)|(simp [*];done)|(generalize ByteArray.toList _=q_;cases q_ <;> rfl)),H',⟨by have:=HK1.out;have:=HK2.out;omega⟩,⟨by repeat(first|(with_reducible first|exact HB.out|apply zqb|apply zqa|apply zqc)|exact HB.out)⟩⟩
      ·replace c6:=Bool.eq_false_iff.mpr c6
       subst c6
       have H1:(some false)=some r:=by rw [if_neg (show ¬ (false=true) by decide)] at H;exact H
       clear H
       have H:=H1
       clear H1
       obtain rfl:=Option.some.inj H
       have p229:0≤(x3_1:Int):=of_decide_eq_true (by first|(with_reducible assumption)|assumption)
       have q229:x3_1<(l0.length:Int):=of_decide_eq_true (by first|(with_reducible assumption)|assumption)
       obtain ⟨ad229,A229_1,c229_1,A229_2,c229_2,A229_3,c229_3,e229,hx229_0,hx229_1,hx229_2,hx229_3,hl229_1,hi229_1,hl229_2,hi229_2,hl229_3,hi229_3⟩:=at_T61 HR0.out x3_1 p229 q229
       cases e229
       replace hx229_0:=(HB.out.cell (World.block_lt_of_cell? w _ hx229_0)).trans hx229_0
       replace hx229_1:=(HB.out.cell (World.block_lt_of_cell? w _ hx229_1)).trans hx229_1
       replace hx229_2:=(HB.out.cell (World.block_lt_of_cell? w _ hx229_2)).trans hx229_2
       replace hx229_3:=(HB.out.cell (World.block_lt_of_cell? w _ hx229_3)).trans hx229_3
       have HR229_1:=zqd.mk hi229_1
       have HC229_1:=zqd.mk hl229_1
       clear hi229_1 hl229_1
       have HR229_2:=zqd.mk hi229_2
       have HC229_2:=zqd.mk hl229_2
       clear hi229_2 hl229_2
       have HR229_3:=zqd.mk hi229_3
       have HC229_3:=zqd.mk hl229_3
       clear hi229_3 hl229_3
       replace p229:=eq_true p229
       replace q229:=eq_true q229
       go_wp2_with (first|(go_at_call 60;(with_reducible refine(zjb.calls k1 ((zqo l0 x3_1).f0) _ _ ((zqo l0 x3_1).f1) _ _ ((zqo l0 x3_1).f2) _ _ ((zqo l0 x3_1).f3) false _ ?side1 ?side2 ?side3 ?side4 ?side5 ?side6 A5.out).mono ?_);(case side1=>repeat(first|exact(Kd.zq3 HR229_1.out HB.out)|(with_reducible refine Kd.zqw ?_ _)|(with_reducible refine Kd.zqy ?_ _)|(with_reducible refine Kd.zq2 ?_)));(case side2=>exact HC229_1.out);(case side3=>repeat(first|exact(Kd.zq3 HR229_2.out HB.out)|(with_reducible refine Kd.zqw ?_ _)|(with_reducible refine Kd.zqy ?_ _)|(with_reducible refine Kd.zq2 ?_)));(case side4=>exact HC229_2.out);(case side5=>repeat(first|exact(Kd.zq3 HR229_3.out HB.out)|(with_reducible refine Kd.zqw ?_ _)|(with_reducible refine Kd.zqy ?_ _)|(with_reducible refine Kd.zq2 ?_)));(case side6=>exact HC229_3.out);rintro e w14 ⟨rfl,hb⟩;have n0_:=zqd.mk (zqn (by repeat(first|(with_reducible first|exact HB.out|apply zqb|apply zqa|apply zqc)|exact HB.out)) hb);clear HB;have HB:=n0_;clear n0_;(try clear hb);(try clear hb2);(try clear hk);(try clear hi)))
       repeat(go_quiet (first|(go_at_call 60;(with_reducible refine(zjb.calls k1 ((zqo l0 x3_1).f0) _ _ ((zqo l0 x3_1).f1) _ _ ((zqo l0 x3_1).f2) _ _ ((zqo l0 x3_1).f3) false _ ?side1 ?side2 ?side3 ?side4 ?side5 ?side6 A5.out).mono ?_);(case side1=>repeat(first|exact(Kd.zq3 HR229_1.out HB.out)|(with_reducible refine Kd.zqw ?_ _)|(with_reducible refine Kd.zqy ?_ _)|(with_reducible refine Kd.zq2 ?_)));(case side2=>exact HC229_1.out);(case side3=>repeat(first|exact(Kd.zq3 HR229_2.out HB.out)|(with_reducible refine Kd.zqw ?_ _)|(with_reducible refine Kd.zqy ?_ _)|(with_reducible refine Kd.zq2 ?_)));(case side4=>exact HC229_2.out);(case side5=>repeat(first|exact(Kd.zq3 HR229_3.out HB.out)|(with_reducible refine Kd.zqw ?_ _)|(with_reducible refine Kd.zqy ?_ _)|(with_reducible refine Kd.zq2 ?_)));(case side6=>exact HC229_3.out);rintro e w14 ⟨rfl,hb⟩;have n0_:=zqd.mk (zqn (by repeat(first|(with_reducible first|exact HB.out|apply zqb|apply zqa|apply zqc)|exact HB.out)) hb);clear HB;have HB:=n0_;clear n0_;(try clear hb);(try clear hb2);(try clear hk);(try clear hi)));try go_wp2_with (first|(go_at_call 60;(with_reducible refine(zjb.calls k1 ((zqo l0 x3_1).f0) _ _ ((zqo l0 x3_1).f1) _ _ ((zqo l0 x3_1).f2) _ _ ((zqo l0 x3_1).f3) false _ ?side1 ?side2 ?side3 ?side4 ?side5 ?side6 A5.out).mono ?_);(case side1=>repeat(first|exact(Kd.zq3 HR229_1.out HB.out)|(with_reducible refine Kd.zqw ?_ _)|(with_reducible refine Kd.zqy ?_ _)|(with_reducible refine Kd.zq2 ?_)));(case side2=>exact HC229_1.out);(case side3=>repeat(first|exact(Kd.zq3 HR229_2.out HB.out)|(with_reducible refine Kd.zqw ?_ _)|(with_reducible refine Kd.zqy ?_ _)|(with_reducible refine Kd.zq2 ?_)));(case side4=>exact HC229_2.out);(case side5=>repeat(first|exact(Kd.zq3 HR229_3.out HB.out)|(with_reducible refine Kd.zqw ?_ _)|(with_reducible refine Kd.zqy ?_ _)|(with_reducible refine Kd.zq2 ?_)));(case side6=>exact HC229_3.out);rintro e w14 ⟨rfl,hb⟩;have n0_:=zqd.mk (zqn (by repeat(first|(with_reducible first|exact HB.out|apply zqb|apply zqa|apply zqc)|exact HB.out)) hb);clear HB;have HB:=n0_;clear n0_;(try clear hb);(try clear hb2);(try clear hk);(try clear hi))))
       go_ret
       exact⟨by first|rfl|(simp [zqm,zql] <;> rfl)|(simp [*,zqm,zql] <;> rfl),by repeat(first|(with_reducible first|exact HB.out|apply zqb|apply zqa|apply zqc)|exact HB.out)⟩
     ·rw [if_neg c4] at H
      exact absurd H (by simp)
    ·rw [if_neg c3] at H
     have c3b0:decide (x3_1<(l0.length:Int))=false:=decide_eq_false c3
     clear c3
     obtain rfl:=Option.some.inj H
     go_wp2
     repeat(go_quiet (fail);try go_wp2)
     go_ret
     exact⟨by first|rfl|(simp [zqm,zql] <;> rfl)|(simp [*,zqm,zql] <;> rfl),by repeat(first|(with_reducible first|exact HB.out|apply zqb|apply zqa|apply zqc)|exact HB.out)⟩

end Go.Proofs.YthhejedfjgikdaaDoor.PRowEntries
