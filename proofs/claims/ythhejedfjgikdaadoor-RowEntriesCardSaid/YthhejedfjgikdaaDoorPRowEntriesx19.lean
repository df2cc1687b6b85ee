-- Written by wip/pp of this repo (over the kit's print, with additions of this session); Lean checks every line.
import Derived.Test.YthhejedfjgikdaaDoorPRowEntriesx17
import Derived.Test.YthhejedfjgikdaaDoorPRowEntriesx18
namespace Go.Proofs.YthhejedfjgikdaaDoor.PRowEntries
open Go.RowKit Go.Proofs.YthhejedfjgikdaaDoorW.PrintWords Go.Proofs.YthhejedfjgikdaaDoorW.PrintLast Go.Proofs.YthhejedfjgikdaaDoorW.PrintMore
attribute [local go_sem] zxq zxo zx0 zxz zxg zxf zxp zxn   -- for this text's walks alone
set_option linter.unusedVariables false
set_option linter.unusedSimpArgs false

/-! ### zjg: function 33 -/
mutual
def zjg.l0:Nat→Int→List (S38)→List (S32)→Int→ByteArray→List (S90)→List Int→List (S96)→Option ((List (S32)))
 | 0,_,_,_,_,_,_,_,_=>none
 | k+1,x1,x2,x8,x9,x248000,x248001,x248002,x248003=>if x9≤(x248003.length:Int) then((zj7.f x1).bind fun bt248=>((zj7.f x9).bind fun bt251=>((some (([(⟨bt248.1,bt248.2.1,bt248.2.2⟩:S38),(⟨bt251.1,bt251.2.1,bt251.2.2⟩:S38)]:List (S38)):List (S38))).bind fun y254=>(if x9 > 0 then(if 0≤(wrap64 (x9 - 1)) then(if(wrap64 (x9 - 1))<(x248003.length:Int) then(zjg.l1 k x1 x2 x8 x9 y254 ((zq0 x248003 (wrap64 (x9 - 1))).f1) (((zq0 x248003 (wrap64 (x9 - 1))).f1).length:Int) 0 x248000 x248001 x248002 x248003) else (none)) else (none)) else (zjg.j2 k x1 x2 x8 x9 y254 x248000 x248001 x248002 x248003))))) else (some x8)
def zjg.j2:Nat→Int→List (S38)→List (S32)→Int→List (S38)→ByteArray→List (S90)→List Int→List (S96)→Option ((List (S32)))
 | 0,_,_,_,_,_,_,_,_,_=>none
 | k+1,x1,x2,x8,x9,x10,x248000,x248001,x248002,x248003=>zjg.l2 k x1 x2 x8 x9 x10 x248002 (x248002.length:Int) 0 x248000 x248001 x248002 x248003
def zjg.l2:Nat→Int→List (S38)→List (S32)→Int→List (S38)→List Int→Int→Int→ByteArray→List (S90)→List Int→List (S96)→Option ((List (S32)))
 | 0,_,_,_,_,_,_,_,_,_,_,_,_=>none
 | k+1,x1,x2,x8,x9,x10,x57,x58,x59,x248000,x248001,x248002,x248003=>if x59<x58 then(if 0≤x59 then(if x59<(x57.length:Int) then(if 0≤(rd x57 x59) then(if(rd x57 x59)<(x2.length:Int) then(if x10.length<4398046511104 then(zjg.l2 k x1 x2 x8 x9 (x10 ++ [(⟨(zqs x2 (rd x57 x59)).f0,(zqs x2 (rd x57 x59)).f1,(zqs x2 (rd x57 x59)).f2⟩:S38)]) x57 x58 (wrap64 (x59+1)) x248000 x248001 x248002 x248003) else (none)) else (none)) else (none)) else (none)) else (none)) else ((zjc.f k x10).bind fun bt268=>(if x9=0 then((zjc.f k x2).bind fun bt273=>(if x8.length<2932031007402 then(zjg.l0 k x1 x2 (x8 ++ [(⟨bt268.1,bt273.1⟩:S32)]) (wrap64 (x9+1)) x248000 x248001 x248002 x248003) else (none))) else (if x8.length<2932031007402 then(zjg.l0 k x1 x2 (x8 ++ [(⟨bt268.1,([]:List Int)⟩:S32)]) (wrap64 (x9+1)) x248000 x248001 x248002 x248003) else (none))))
def zjg.l1:Nat→Int→List (S38)→List (S32)→Int→List (S38)→List Int→Int→Int→ByteArray→List (S90)→List Int→List (S96)→Option ((List (S32)))
 | 0,_,_,_,_,_,_,_,_,_,_,_,_=>none
 | k+1,x1,x2,x8,x9,x10,x42,x43,x44,x248000,x248001,x248002,x248003=>if x44<x43 then(if 0≤x44 then(if x44<(x42.length:Int) then(if 0≤(rd x42 x44) then(if(rd x42 x44)<(x2.length:Int) then(if x10.length<4398046511104 then(zjg.l1 k x1 x2 x8 x9 (x10 ++ [(⟨(zqs x2 (rd x42 x44)).f0,(zqs x2 (rd x42 x44)).f1,(zqs x2 (rd x42 x44)).f2⟩:S38)]) x42 x43 (wrap64 (x44+1)) x248000 x248001 x248002 x248003) else (none)) else (none)) else (none)) else (none)) else (none)) else (zjg.j2 k x1 x2 x8 x9 x10 x248000 x248001 x248002 x248003)
end
def zjg.f (k:Nat) (l0:List (S61)) (a1:Int) (l2:List (S38)):Option ((List (S32))):=if 0≤a1 then(if a1<(l0.length:Int) then(zjg.l0 k a1 l2 ([]:List (S32)) 0 ((zqo l0 a1).f0) ((zqo l0 a1).f1) ((zqo l0 a1).f2) ((zqo l0 a1).f3)) else (none)) else (none)
theorem zjg.mono_l:∀ k,(∀ y0 y1 y2 y3 y4 y5 y6 y7,LeO (zjg.l0 k y0 y1 y2 y3 y4 y5 y6 y7) (zjg.l0 (k+1) y0 y1 y2 y3 y4 y5 y6 y7))∧(∀ y0 y1 y2 y3 y4 y5 y6 y7 y8,LeO (zjg.j2 k y0 y1 y2 y3 y4 y5 y6 y7 y8) (zjg.j2 (k+1) y0 y1 y2 y3 y4 y5 y6 y7 y8))∧(∀ y0 y1 y2 y3 y4 y5 y6 y7 y8 y9 y10 y11,LeO (zjg.l2 k y0 y1 y2 y3 y4 y5 y6 y7 y8 y9 y10 y11) (zjg.l2 (k+1) y0 y1 y2 y3 y4 y5 y6 y7 y8 y9 y10 y11))∧(∀ y0 y1 y2 y3 y4 y5 y6 y7 y8 y9 y10 y11,LeO (zjg.l1 k y0 y1 y2 y3 y4 y5 y6 y7 y8 y9 y10 y11) (zjg.l1 (k+1) y0 y1 y2 y3 y4 y5 y6 y7 y8 y9 y10 y11))
 | 0=>⟨fun _ _ _ _ _ _ _ _ r h=>by simp [zjg.l0] at h,fun _ _ _ _ _ _ _ _ _ r h=>by simp [zjg.j2] at h,fun _ _ _ _ _ _ _ _ _ _ _ _ r h=>by simp [zjg.l2] at h,fun _ _ _ _ _ _ _ _ _ _ _ _ r h=>by simp [zjg.l1] at h⟩
 | k+1=>by
  obtain ⟨ih0,ih1,ih2,ih3⟩:=zjg.mono_l k
  refine⟨?_,?_,?_,?_⟩
  ·intro y0 y1 y2 y3 y4 y5 y6 y7
   unfold zjg.l0
   repeat' first
   | (with_reducible first|exact ih0 _ _ _ _ _ _ _ _|exact ih1 _ _ _ _ _ _ _ _ _|exact ih2 _ _ _ _ _ _ _ _ _ _ _ _|exact ih3 _ _ _ _ _ _ _ _ _ _ _ _|exact zjc.mono _ _|exact LeO.refl _|exact LeO.none _|refine LeO.ite ?_ ?_|refine LeO.bind ?_ (fun _=>?_))
   | exact ih0 _ _ _ _ _ _ _ _
   | exact ih1 _ _ _ _ _ _ _ _ _
   | exact ih2 _ _ _ _ _ _ _ _ _ _ _ _
   | exact ih3 _ _ _ _ _ _ _ _ _ _ _ _
   | exact zjc.mono _ _
   | exact LeO.none _
   | refine LeO.ite ?_ ?_
   | refine LeO.bind ?_ (fun _=>?_)
  ·intro y0 y1 y2 y3 y4 y5 y6 y7 y8
   unfold zjg.j2
   repeat' first
   | (with_reducible first|exact ih0 _ _ _ _ _ _ _ _|exact ih1 _ _ _ _ _ _ _ _ _|exact ih2 _ _ _ _ _ _ _ _ _ _ _ _|exact ih3 _ _ _ _ _ _ _ _ _ _ _ _|exact zjc.mono _ _|exact LeO.refl _|exact LeO.none _|refine LeO.ite ?_ ?_|refine LeO.bind ?_ (fun _=>?_))
   | exact ih0 _ _ _ _ _ _ _ _
   | exact ih1 _ _ _ _ _ _ _ _ _
   | exact ih2 _ _ _ _ _ _ _ _ _ _ _ _
   | exact ih3 _ _ _ _ _ _ _ _ _ _ _ _
   | exact zjc.mono _ _
   | exact LeO.none _
   | refine LeO.ite ?_ ?_
   | refine LeO.bind ?_ (fun _=>?_)
  ·intro y0 y1 y2 y3 y4 y5 y6 y7 y8 y9 y10 y11
   unfold zjg.l2
   repeat' first
   | (with_reducible first|exact ih0 _ _ _ _ _ _ _ _|exact ih1 _ _ _ _ _ _ _ _ _|exact ih2 _ _ _ _ _ _ _ _ _ _ _ _|exact ih3 _ _ _ _ _ _ _ _ _ _ _ _|exact zjc.mono _ _|exact LeO.refl _|exact LeO.none _|refine LeO.ite ?_ ?_|refine LeO.bind ?_ (fun _=>?_))
   | exact ih0 _ _ _ _ _ _ _ _
   | exact ih1 _ _ _ _ _ _ _ _ _
   | exact ih2 _ _ _ _ _ _ _ _ _ _ _ _
   | exact ih3 _ _ _ _ _ _ _ _ _ _ _ _
   | exact zjc.mono _ _
   | exact LeO.none _
   | refine LeO.ite ?_ ?_
   | refine LeO.bind ?_ (fun _=>?_)
  ·intro y0 y1 y2 y3 y4 y5 y6 y7 y8 y9 y10 y11
   unfold zjg.l1
   repeat' first
   | (with_reducible first|exact ih0 _ _ _ _ _ _ _ _|exact ih1 _ _ _ _ _ _ _ _ _|exact ih2 _ _ _ _ _ _ _ _ _ _ _ _|exact ih3 _ _ _ _ _ _ _ _ _ _ _ _|exact zjc.mono _ _|exact LeO.refl _|exact LeO.none _|refine LeO.ite ?_ ?_|refine LeO.bind ?_ (fun _=>?_))
   | exact ih0 _ _ _ _ _ _ _ _
   | exact ih1 _ _ _ _ _ _ _ _ _
   | exact ih2 _ _ _ _ _ _ _ _ _ _ _ _
   | exact ih3 _ _ _ _ _ _ _ _ _ _ _ _
   | exact zjc.mono _ _
   | exact LeO.none _
   | refine LeO.ite ?_ ?_
   | refine LeO.bind ?_ (fun _=>?_)
theorem zjg.mono:∀ a0 a1 a2 k,LeO (zjg.f k a0 a1 a2) (zjg.f (k+1) a0 a1 a2):=by
 intro a0 a1 a2 k
 obtain ⟨ih0,ih1,ih2,ih3⟩:=zjg.mono_l k
 unfold zjg.f
 repeat' first
   | (with_reducible first|exact ih0 _ _ _ _ _ _ _ _|exact ih1 _ _ _ _ _ _ _ _ _|exact ih2 _ _ _ _ _ _ _ _ _ _ _ _|exact ih3 _ _ _ _ _ _ _ _ _ _ _ _|exact zjc.mono _ _|exact LeO.refl _|exact LeO.none _|refine LeO.ite ?_ ?_|refine LeO.bind ?_ (fun _=>?_))
   | exact ih0 _ _ _ _ _ _ _ _
   | exact ih1 _ _ _ _ _ _ _ _ _
   | exact ih2 _ _ _ _ _ _ _ _ _ _ _ _
   | exact ih3 _ _ _ _ _ _ _ _ _ _ _ _
   | exact zjc.mono _ _
   | exact LeO.none _
   | refine LeO.ite ?_ ?_
   | refine LeO.bind ?_ (fun _=>?_)
set_option maxHeartbeats 8000000 in
set_option maxRecDepth 100000 in
theorem zjg.calls (k:Nat) (A0:Option Addr) (c0:Nat) (l0:List (S61)) (a1:Int) (A2:Option Addr) (c2:Nat) (l2:List (S38)) (r:List (S32)) (w:World) (hr0:Kd.C k61 w A0 l0.length l0) (hc0:l0.length≤c0) (hr2:Kd.C k38 w A2 l2.length l2) (hc2:l2.length≤c2) (h:zjg.f k l0 a1 l2=some r) :
  Calls Tryd.prog 33 #[.slice A0 l0.length c0,.int .i64 a1,.slice A2 l2.length c2] w fun e w' => ∃ v0_:Value,e = .returned (v0_)∧Kd.S k32 32 w' w.heap.size (fun _=>True) v0_ r∧Below w.heap.size w w':=by
 have hu61:=Tryd.underlying61
 have hu38:=Tryd.underlying38
 have hu32:=Tryd.underlying32
 have HR0:=zqd.mk hr0
 have HC0:=zqd.mk hc0
 clear hr0 hc0
 have HR2:=zqd.mk hr2
 have HC2:=zqd.mk hc2
 clear hr2 hc2
 have HB:=zqd.mk (Below.refl w.heap.size w)
 have H:(if 0≤a1 then(if a1<(l0.length:Int) then(zjg.l0 k a1 l2 ([]:List (S32)) 0 ((zqo l0 a1).f0) ((zqo l0 a1).f1) ((zqo l0 a1).f2) ((zqo l0 a1).f3)) else (none)) else (none))=some r:=h
 clear h
 by_cases c4:0≤a1
 ·rw [if_pos c4] at H
  have c4b0:decide (0≤a1)=true:=decide_eq_true c4
  clear c4
  by_cases c5:a1<(l0.length:Int)
  ·rw [if_pos c5] at H
   have c5b0:decide (a1<(l0.length:Int))=true:=decide_eq_true c5
   clear c5
   have H':=zqd.mk H
   clear H
   have p246:0≤(a1:Int):=of_decide_eq_true (by first|(with_reducible assumption)|assumption)
   have q246:a1<(l0.length:Int):=of_decide_eq_true (by first|(with_reducible assumption)|assumption)
   obtain ⟨ad246,A246_1,c246_1,A246_2,c246_2,A246_3,c246_3,e246,hx246_0,hx246_1,hx246_2,hx246_3,hl246_1,hi246_1,hl246_2,hi246_2,hl246_3,hi246_3⟩:=at_T61 HR0.out a1 p246 q246
   cases e246
   have HR246_1:=zqd.mk hi246_1
   have HC246_1:=zqd.mk hl246_1
   clear hi246_1 hl246_1
   have HR246_2:=zqd.mk hi246_2
   have HC246_2:=zqd.mk hl246_2
   clear hi246_2 hl246_2
   have HR246_3:=zqd.mk hi246_3
   have HC246_3:=zqd.mk hl246_3
   clear hi246_3 hl246_3
   replace p246:=eq_true p246
   replace q246:=eq_true q246
   go_enter Tryd.func33,Tryd.ntmps33
   go_wp2_with (first|((with_reducible refine zqx (N:=7) rfl ?_);refine zqt ?hg (N:=7) ?hd (cs:=#[.string (⟨#[]⟩:ByteArray),.slice none 0 0,.slice none 0 0,.slice none 0 0]) (t:=61) ?hr ?_;(case hd=>rfl);(case hg=>rfl);(case hr=>first|(go_simp;done)|(go_simp;rfl));intro gb247 hg w6 hbox hb;have n0_:=zqd.mk (zqn (by repeat(first|(with_reducible first|exact HB.out|apply zqb|apply zqa|apply zqc)|exact HB.out)) hb);have n1_:=zqd.mk (hbox);have n2_:=zqd.mk ((by rw [hg];exact(zqk (by repeat(first|(with_reducible first|exact HB.out|apply zqb|apply zqa|apply zqc)|exact HB.out))):w.heap.size≤gb247));have n3_:=zqd.mk ((by rw [hg];exact(zqk (by repeat(first|(with_reducible first|exact HB.out|apply zqb|apply zqa|apply zqc)|exact HB.out))):w.heap.size≤gb247));clear HB;have HB:=n0_;have BK247:=n1_;have GW247:=n2_;have GE247:=n3_;clear n0_ n1_ n2_ n3_ hb hbox hg;have hcz7_0:w6.cell? ⟨gb247,0,none⟩=some (.string (⟨#[]⟩:ByteArray)):=(zqf BK247.out 0).trans rfl;have hcz7_1:w6.cell? ⟨gb247,1,none⟩=some (.slice none 0 0):=(zqf BK247.out 1).trans rfl;have hcz7_2:w6.cell? ⟨gb247,2,none⟩=some (.slice none 0 0):=(zqf BK247.out 2).trans rfl;have hcz7_3:w6.cell? ⟨gb247,3,none⟩=some (.slice none 0 0):=(zqf BK247.out 3).trans rfl;have hfz7_0:=zqe BK247.out 0;have hfz7_1:=zqe BK247.out 1;have hfz7_2:=zqe BK247.out 2;have hfz7_3:=zqe BK247.out 3))
   go_loopg [8,9] k (fun kq v8 v9 w' => ∃ (x8_1:List (S32)) (x9_1:Int),v9 = .int .i64 x9_1∧zqd (zjg.l0 kq a1 l2 x8_1 x9_1 ((zqo l0 a1).f0) ((zqo l0 a1).f1) ((zqo l0 a1).f2) ((zqo l0 a1).f3)=some r)∧zqd (kq≤k)∧zqd (Kd.S k32 32 w' w.heap.size (fun _=>True) v8 x8_1)∧zqd (w'.heap[gb247]? = some (.cells #[.string ((zqo l0 a1).f0),(.slice A246_1 ((zqo l0 a1).f1).length c246_1),(.slice A246_2 ((zqo l0 a1).f2).length c246_2),(.slice A246_3 ((zqo l0 a1).f3).length c246_3)] 61 (0,0)))∧zqd (Below w.heap.size w w'))
   case atStart=>exact⟨(([]:List (S32))),(0),(by first|rfl|(simp;done)|(simp [*];done)|(generalize ByteArray.toList _=q_;cases q_ <;> rfl)),H',⟨Nat.le_refl _⟩,⟨by first|exact Kd.S_nil _ _ _ _ _|exact Kd.N_nil _ _ _ _ _|exact Kd.V_nil _ _ _ _ _|exact Kd.Q_nil _ _ _ _ _|exact Kd.R_nil _ _ _ _ _⟩,⟨by(with_reducible repeat(first|refine zqg ?_ _|refine zqj ?_|refine zqh ?_ _));refine zqu (cs:=#[.string ((zqo l0 a1).f0),.slice A246_1 ((zqo l0 a1).f1).length c246_1,.slice A246_2 ((zqo l0 a1).f2).length c246_2,.slice none 0 0]) ?_ 3 _ rfl;(with_reducible repeat(first|refine zqg ?_ _|refine zqj ?_|refine zqh ?_ _));refine zqu (cs:=#[.string ((zqo l0 a1).f0),.slice A246_1 ((zqo l0 a1).f1).length c246_1,.slice none 0 0,.slice none 0 0]) ?_ 2 _ rfl;(with_reducible repeat(first|refine zqg ?_ _|refine zqj ?_|refine zqh ?_ _));refine zqu (cs:=#[.string ((zqo l0 a1).f0),.slice none 0 0,.slice none 0 0,.slice none 0 0]) ?_ 1 _ rfl;(with_reducible repeat(first|refine zqg ?_ _|refine zqj ?_|refine zqh ?_ _));refine zqu (cs:=#[.string (⟨#[]⟩:ByteArray),.slice none 0 0,.slice none 0 0,.slice none 0 0]) ?_ 0 _ rfl;(with_reducible repeat(first|refine zqg ?_ _|refine zqj ?_|refine zqh ?_ _));exact BK247.out⟩,⟨by repeat(first|(with_reducible first|exact HB.out|apply zqb|apply zqa|apply zqc|refine zqi ?_ GE247.out)|exact HB.out)⟩⟩
   case round=>
    clear H'
    try clear c2
    try clear p2
    try clear q2
    try clear hx2
    try clear c3
    try clear c4
    try clear c4b0
    try clear c5
    try clear c5b0
    try clear hcz7_0
    try clear hcz7_1
    try clear hcz7_2
    try clear hcz7_3
    try clear hfz7_0
    try clear hfz7_1
    try clear hfz7_2
    try clear hfz7_3
    try clear hx246_0
    try clear hx246_1
    try clear hx246_2
    try clear hx246_3
    try clear p246
    try clear q246
    obtain ⟨x8_1,x9_1,rfl,HA,HK1,HO_8,BK247,HB⟩:=hrel
    cases gk with
    | zero=>exact absurd HA.out (by simp [zjg.l0])
    | succ k1=>
     have H:=HA.out
     clear HA
     simp only [zjg.l0] at H
     by_cases c8:x9_1≤(((zqo l0 a1).f3).length:Int)
     ·rw [if_pos c8] at H
      have c8b0:decide (x9_1≤(((zqo l0 a1).f3).length:Int))=true:=decide_eq_true c8
      clear c8
      replace H:=Option.bind_eq_some_iff.mp H
      obtain ⟨⟨t248,t249,t250⟩,A90,H⟩:=H
      replace H:((zj7.f x9_1).bind fun bt251=>((some (([(⟨t248,t249,t250⟩:S38),(⟨bt251.1,bt251.2.1,bt251.2.2⟩:S38)]:List (S38)):List (S38))).bind fun y254=>(if x9_1 > 0 then(if 0≤(wrap64 (x9_1 - 1)) then(if(wrap64 (x9_1 - 1))<(((zqo l0 a1).f3).length:Int) then(zjg.l1 k1 a1 l2 x8_1 x9_1 y254 ((zq0 ((zqo l0 a1).f3) (wrap64 (x9_1 - 1))).f1) (((zq0 ((zqo l0 a1).f3) (wrap64 (x9_1 - 1))).f1).length:Int) 0 ((zqo l0 a1).f0) ((zqo l0 a1).f1) ((zqo l0 a1).f2) ((zqo l0 a1).f3)) else (none)) else (none)) else (zjg.j2 k1 a1 l2 x8_1 x9_1 y254 ((zqo l0 a1).f0) ((zqo l0 a1).f1) ((zqo l0 a1).f2) ((zqo l0 a1).f3)))))=some r:=H
      have A9:=zqd.mk A90
      clear A90
      replace H:=Option.bind_eq_some_iff.mp H
      obtain ⟨⟨t251,t252,t253⟩,A100,H⟩:=H
      replace H:((some (([(⟨t248,t249,t250⟩:S38),(⟨t251,t252,t253⟩:S38)]:List (S38)):List (S38))).bind fun y254=>(if x9_1 > 0 then(if 0≤(wrap64 (x9_1 - 1)) then(if(wrap64 (x9_1 - 1))<(((zqo l0 a1).f3).length:Int) then(zjg.l1 k1 a1 l2 x8_1 x9_1 y254 ((zq0 ((zqo l0 a1).f3) (wrap64 (x9_1 - 1))).f1) (((zq0 ((zqo l0 a1).f3) (wrap64 (x9_1 - 1))).f1).length:Int) 0 ((zqo l0 a1).f0) ((zqo l0 a1).f1) ((zqo l0 a1).f2) ((zqo l0 a1).f3)) else (none)) else (none)) else (zjg.j2 k1 a1 l2 x8_1 x9_1 y254 ((zqo l0 a1).f0) ((zqo l0 a1).f1) ((zqo l0 a1).f2) ((zqo l0 a1).f3))))=some r:=H
      have A10:=zqd.mk A100
      clear A100
      obtain ⟨y254,hy254⟩:∃ y_:List (S38),y_=(([(⟨t248,t249,t250⟩:S38),(⟨t251,t252,t253⟩:S38)]:List (S38))):=⟨_,rfl⟩
      replace H:(if x9_1 > 0 then(if 0≤(wrap64 (x9_1 - 1)) then(if(wrap64 (x9_1 - 1))<(((zqo l0 a1).f3).length:Int) then(zjg.l1 k1 a1 l2 x8_1 x9_1 y254 ((zq0 ((zqo l0 a1).f3) (wrap64 (x9_1 - 1))).f1) (((zq0 ((zqo l0 a1).f3) (wrap64 (x9_1 - 1))).f1).length:Int) 0 ((zqo l0 a1).f0) ((zqo l0 a1).f1) ((zqo l0 a1).f2) ((zqo l0 a1).f3)) else (none)) else (none)) else (zjg.j2 k1 a1 l2 x8_1 x9_1 y254 ((zqo l0 a1).f0) ((zqo l0 a1).f1) ((zqo l0 a1).f2) ((zqo l0 a1).f3)))=some r:=by first|(rw [hy254];with_reducible exact H)|(have H2_:=(Option.bind_some _ _).symm.trans H;rw [hy254];with_reducible exact H2_)|(have H2_:=(Option.bind_some _ _).symm.trans H;with_reducible exact H2_)|with_reducible exact H|(rw [hy254];exact H)|exact H
      have Ny254:=zqd.mk hy254
      clear hy254
      have HC11:=zqd.mk H
      clear H
      have hcz12_0:wr.cell? ⟨gb247,0,none⟩=some (.string ((zqo l0 a1).f0)):=(zqf BK247.out 0).trans rfl
      have hcz12_1:wr.cell? ⟨gb247,1,none⟩=some (.slice A246_1 ((zqo l0 a1).f1).length c246_1):=(zqf BK247.out 1).trans rfl
      have hcz12_2:wr.cell? ⟨gb247,2,none⟩=some (.slice A246_2 ((zqo l0 a1).f2).length c246_2):=(zqf BK247.out 2).trans rfl
      have hcz12_3:wr.cell? ⟨gb247,3,none⟩=some (.slice A246_3 ((zqo l0 a1).f3).length c246_3):=(zqf BK247.out 3).trans rfl
      have hfz12_0:=zqe BK247.out 0
      have hfz12_1:=zqe BK247.out 1
      have hfz12_2:=zqe BK247.out 2
      have hfz12_3:=zqe BK247.out 3
      go_upto_if 35 with (first|((with_reducible refine zqv (f:=62) rfl ?_);refine zq8 (some 30) rfl rfl Tryd.func62 (by kernel_rfl) rfl #[.int .i64 a1] rfl (by(try simp only [List.map_toArray,List.map_cons,List.map_nil]);first|done|rfl|(simp only [List.length_drop,List.length_take];rfl)) ?_;(with_reducible refine(zj7.calls a1 t248 t249 t250 _ A9.out).mono ?_);rintro e w13 ⟨rfl,hb⟩;refine⟨_,rfl,?_⟩;have n0_:=zqd.mk (Kd.S_below (by(with_reducible repeat(first|apply Kd.zxj|apply Kd.zxi|apply Kd.zxx));exact HO_8.out) hb);have n1_:=zqd.mk (zqr (g:=gb247) (o:=.cells #[.string ((zqo l0 a1).f0),.slice A246_1 ((zqo l0 a1).f1).length c246_1,.slice A246_2 ((zqo l0 a1).f2).length c246_2,.slice A246_3 ((zqo l0 a1).f3).length c246_3] 61 (0,0)) (by(with_reducible repeat(first|refine zqg ?_ _|refine zqj ?_|refine zqh ?_ _));exact BK247.out) hb);have n2_:=zqd.mk (zqn (by repeat(first|(with_reducible first|exact HB.out|apply zqb|apply zqa|apply zqc|refine zqi ?_ GE247.out)|exact HB.out)) hb);clear HO_8 BK247 HB;have HO_8:=n0_;have BK247:=n1_;have HB:=n2_;clear n0_ n1_ n2_;(try clear hb);(try clear hb2);(try clear hk);(try clear hi))|((with_reducible refine zqv (f:=62) rfl ?_);refine zq8 (some 32) rfl rfl Tryd.func62 (by kernel_rfl) rfl #[.int .i64 x9_1] rfl (by(try simp only [List.map_toArray,List.map_cons,List.map_nil]);first|done|rfl|(simp only [List.length_drop,List.length_take];rfl)) ?_;(with_reducible refine(zj7.calls x9_1 t251 t252 t253 _ A10.out).mono ?_);rintro e w14 ⟨rfl,hb⟩;refine⟨_,rfl,?_⟩;have n0_:=zqd.mk (Kd.S_below (by(with_reducible repeat(first|apply Kd.zxj|apply Kd.zxi|apply Kd.zxx));exact HO_8.out) hb);have n1_:=zqd.mk (zqr (g:=gb247) (o:=.cells #[.string ((zqo l0 a1).f0),.slice A246_1 ((zqo l0 a1).f1).length c246_1,.slice A246_2 ((zqo l0 a1).f2).length c246_2,.slice A246_3 ((zqo l0 a1).f3).length c246_3] 61 (0,0)) (by(with_reducible repeat(first|refine zqg ?_ _|refine zqj ?_|refine zqh ?_ _));exact BK247.out) hb);have n2_:=zqd.mk (zqn (by repeat(first|(with_reducible first|exact HB.out|apply zqb|apply zqa|apply zqc|refine zqi ?_ GE247.out)|exact HB.out)) hb);clear HO_8 BK247 HB;have HO_8:=n0_;have BK247:=n1_;have HB:=n2_;clear n0_ n1_ n2_;(try clear hb);(try clear hb2);(try clear hk);(try clear hi))|((with_reducible refine zqx (N:=33) rfl ?_);refine Kd.R_lit k38 _ 38 ?hg (N:=33) ?hd (xs:=([(⟨t248,t249,t250⟩:S38),(⟨t251,t252,t253⟩:S38)]:List (S38))) (inner := [.int .i64 t248,.int .i64 t249,.string t250,.int .i64 t251,.int .i64 t252,.string t253]) (ok:=fun _=>True) (okp:=fun _=>True) ?hr ?hp (fun _ hk=>hk) trivial (Below.refl _ _) (Nat.le_refl _) (by simp) ?_;(case hd=>rfl);(case hg=>rfl);(case hr=>first|(go_simp;done)|(go_simp;rfl));(case hp=>exact(Reps.c3 (show Kd.M k38 _ _ _ (⟨t248,t249,t250⟩:S38) [.int .i64 t248,.int .i64 t249,.string t250] from (k38_mkM _ _ _ (⟨t248,t249,t250⟩:S38) )) (Reps.c3 (show Kd.M k38 _ _ _ (⟨t251,t252,t253⟩:S38) [.int .i64 t251,.int .i64 t252,.string t253] from (k38_mkM _ _ _ (⟨t251,t252,t253⟩:S38) )) (Reps.none _ _))));intro v255 w15 ho16 hb hg_ hnew_;clear hg_ hnew_;(first|rw [← Ny254.out] at ho16|(simp only [Int.reduceToNat] at ho16;rw [← Ny254.out] at ho16));have n0_:=zqd.mk (Kd.S_below (by(with_reducible repeat(first|apply Kd.zxj|apply Kd.zxi|apply Kd.zxx));exact HO_8.out) hb);have n1_:=zqd.mk (Kd.zko ho16 (zqk (by repeat(first|(with_reducible first|exact HB.out|apply zqb|apply zqa|apply zqc|refine zqi ?_ GE247.out)|exact HB.out))));have n2_:=zqd.mk (zqr (g:=gb247) (o:=.cells #[.string ((zqo l0 a1).f0),.slice A246_1 ((zqo l0 a1).f1).length c246_1,.slice A246_2 ((zqo l0 a1).f2).length c246_2,.slice A246_3 ((zqo l0 a1).f3).length c246_3] 61 (0,0)) (by(with_reducible repeat(first|refine zqg ?_ _|refine zqj ?_|refine zqh ?_ _));exact BK247.out) hb);have n3_:=zqd.mk (zqn (by repeat(first|(with_reducible first|exact HB.out|apply zqb|apply zqa|apply zqc|refine zqi ?_ GE247.out)|exact HB.out)) hb);clear HO_8 BK247 HB;have HO_8:=n0_;have HO256:=n1_;have BK247:=n2_;have HB:=n3_;clear n0_ n1_ n2_ n3_ hb ho16))
      (try simp only [Act.put,List.setIfInBounds_toArray,List.set_cons_zero,List.set_cons_succ])
      go_cut [10] (fun v10 wc => ∃ (kq:Nat) (x10_10:List (S38)),zqd (zjg.j2 kq a1 l2 x8_1 x9_1 x10_10 ((zqo l0 a1).f0) ((zqo l0 a1).f1) ((zqo l0 a1).f2) ((zqo l0 a1).f3)=some r)∧zqd (kq≤k1)∧zqd (Kd.S k32 32 wc w.heap.size (fun _=>True) u8 x8_1)∧zqd (Kd.R k38 38 wc w.heap.size (fun _=>True) v10 x10_10)∧zqd (wc.heap[gb247]? = some (.cells #[.string ((zqo l0 a1).f0),(.slice A246_1 ((zqo l0 a1).f1).length c246_1),(.slice A246_2 ((zqo l0 a1).f2).length c246_2),(.slice A246_3 ((zqo l0 a1).f3).length c246_3)] 61 (0,0)))∧zqd (Below w.heap.size w wc))
      case first=>
       have H:=HC11.out
       clear HC11
       by_cases c17:x9_1 > 0
       ·rw [if_pos c17] at H
        have c17b0:decide (0<x9_1)=true:=decide_eq_true c17
        clear c17
        (first|rw [c17b0]|(simp only [zx6,zx8];rw [c17b0])|skip)
        obtain ⟨ji18,hji18⟩:∃ j_:Int,(wrap64 (x9_1 - 1))=j_:=⟨_,rfl⟩
        replace H:(if 0≤(ji18) then(if(ji18)<(((zqo l0 a1).f3).length:Int) then(zjg.l1 k1 a1 l2 x8_1 x9_1 y254 ((zq0 ((zqo l0 a1).f3) (ji18)).f1) (((zq0 ((zqo l0 a1).f3) (ji18)).f1).length:Int) 0 ((zqo l0 a1).f0) ((zqo l0 a1).f1) ((zqo l0 a1).f2) ((zqo l0 a1).f3)) else (none)) else (none))=some r:=by first|(rw [hji18] at H;exact H)|(simp only [hji18] at H ⊢;exact H)
        have hji18w:(IntKind.i64.wrap (x9_1 - 1))=ji18:=(zx6 _).trans hji18
        by_cases c19:0≤(ji18)
        ·rw [if_pos c19] at H
         have c19b0:decide (0≤(ji18))=true:=decide_eq_true c19
         clear c19
         by_cases c20:(ji18)<(((zqo l0 a1).f3).length:Int)
         ·rw [if_pos c20] at H
          have c20b0:decide ((ji18)<(((zqo l0 a1).f3).length:Int))=true:=decide_eq_true c20
          clear c20
          have H':=zqd.mk H
          clear H
          have hcz21_0:w15.cell? ⟨gb247,0,none⟩=some (.string ((zqo l0 a1).f0)):=(zqf BK247.out 0).trans rfl
          have hcz21_1:w15.cell? ⟨gb247,1,none⟩=some (.slice A246_1 ((zqo l0 a1).f1).length c246_1):=(zqf BK247.out 1).trans rfl
          have hcz21_2:w15.cell? ⟨gb247,2,none⟩=some (.slice A246_2 ((zqo l0 a1).f2).length c246_2):=(zqf BK247.out 2).trans rfl
          have hcz21_3:w15.cell? ⟨gb247,3,none⟩=some (.slice A246_3 ((zqo l0 a1).f3).length c246_3):=(zqf BK247.out 3).trans rfl
          have hfz21_0:=zqe BK247.out 0
          have hfz21_1:=zqe BK247.out 1
          have hfz21_2:=zqe BK247.out 2
          have hfz21_3:=zqe BK247.out 3
          have p257:0≤((ji18):Int):=of_decide_eq_true (by first|(with_reducible assumption)|assumption)
          have q257:(ji18)<(((zqo l0 a1).f3).length:Int):=of_decide_eq_true (by first|(with_reducible assumption)|assumption)
          obtain ⟨ad257,A257_1,c257_1,e257,hx257_0,hx257_1,hl257_1,hi257_1⟩:=at_T96 HR246_3.out (ji18) p257 q257
          cases e257
          replace hx257_0:=(HB.out.cell (World.block_lt_of_cell? w _ hx257_0)).trans hx257_0
          replace hx257_1:=(HB.out.cell (World.block_lt_of_cell? w _ hx257_1)).trans hx257_1
          have HR257_1:=zqd.mk hi257_1
          have HC257_1:=zqd.mk hl257_1
          clear hi257_1 hl257_1
          replace p257:=eq_true p257
          replace q257:=eq_true q257
          go_wp2
          go_loopg [10,44] k1 (fun kq v10 v44 w' => ∃ (x10_2:List (S38)) (x44_2:Int),v44 = .int .i64 x44_2∧zqd (zjg.l1 kq a1 l2 x8_1 x9_1 x10_2 ((zq0 ((zqo l0 a1).f3) (ji18)).f1) (((zq0 ((zqo l0 a1).f3) (ji18)).f1).length:Int) x44_2 ((zqo l0 a1).f0) ((zqo l0 a1).f1) ((zqo l0 a1).f2) ((zqo l0 a1).f3)=some r)∧zqd (kq≤k1)∧zqd (Kd.S k32 32 w' w.heap.size (fun _=>True) u8 x8_1)∧zqd (Kd.R k38 38 w' w.heap.size (fun _=>True) v10 x10_2)∧zqd (w'.heap[gb247]? = some (.cells #[.string ((zqo l0 a1).f0),(.slice A246_1 ((zqo l0 a1).f1).length c246_1),(.slice A246_2 ((zqo l0 a1).f2).length c246_2),(.slice (some ad257) ((zqo l0 a1).f3).length c246_3)] 61 (0,0)))∧zqd (Below w.heap.size w w'))
          case atStart=>exact⟨(y254),(0),(by first|rfl|(simp;done)|(simp [*];done)|(generalize ByteArray.toList _=q_;cases q_ <;> rfl)),H',⟨Nat.le_refl _⟩,⟨by(with_reducible repeat(first|apply Kd.zxj|apply Kd.zxi|apply Kd.zxx));exact HO_8.out⟩,⟨by(with_reducible repeat(first|apply Kd.zq4|apply Kd.zq5|apply Kd.zq7));exact HO256.out⟩,⟨by(with_reducible repeat(first|refine zqg ?_ _|refine zqj ?_|refine zqh ?_ _));exact BK247.out⟩,⟨by repeat(first|(with_reducible first|exact HB.out|apply zqb|apply zqa|apply zqc|refine zqi ?_ GE247.out)|exact HB.out)⟩⟩
          case round=>
           clear H'
           try clear c1
           try clear c2
           try clear p2
           try clear q2
           try clear hx2
           try clear c3
           try clear c4
           try clear c4b0
           try clear c5
           try clear c5b0
           try clear c6
           try clear p6
           try clear c8
           try clear c8b0
           try clear c17
           try clear c17b0
           try clear c19
           try clear c19b0
           try clear c20
           try clear c20b0
           try clear hcz12_0
           try clear hcz12_1
           try clear hcz12_2
           try clear hcz12_3
           try clear hcz21_0
           try clear hcz21_1
           try clear hcz21_2
           try clear hcz21_3
           try clear hcz7_0
           try clear hcz7_1
           try clear hcz7_2
           try clear hcz7_3
           try clear hfz12_0
           try clear hfz12_1
           try clear hfz12_2
           try clear hfz12_3
           try clear hfz21_0
           try clear hfz21_1
           try clear hfz21_2
           try clear hfz21_3
           try clear hfz7_0
           try clear hfz7_1
           try clear hfz7_2
           try clear hfz7_3
           try clear hx246_0
           try clear hx246_1
           try clear hx246_2
           try clear hx246_3
           try clear hx257_0
           try clear hx257_1
           try clear p2
           try clear p246
           try clear p257
           try clear q2
           try clear q246
           try clear q257
           obtain ⟨x10_2,x44_2,rfl,HA,HK2,HO_8,HO_10,BK247,HB⟩:=hrel
           cases gk with
           | zero=>exact absurd HA.out (by simp [zjg.l1])
           | succ k2=>
            have H:=HA.out
            clear HA
            simp only [zjg.l1] at H
            by_cases c22:x44_2<(((zq0 ((zqo l0 a1).f3) (ji18)).f1).length:Int)
            ·rw [if_pos c22] at H
             have c22b0:decide (x44_2<(((zq0 ((zqo l0 a1).f3) (ji18)).f1).length:Int))=true:=decide_eq_true c22
             clear c22
             by_cases c23:0≤x44_2
             ·rw [if_pos c23] at H
              have c23b0:decide (0≤x44_2)=true:=decide_eq_true c23
              clear c23
              by_cases c24:x44_2<(((zq0 ((zqo l0 a1).f3) (ji18)).f1).length:Int)
              ·rw [if_pos c24] at H
               have c24b0:decide (x44_2<(((zq0 ((zqo l0 a1).f3) (ji18)).f1).length:Int))=true:=decide_eq_true c24
               clear c24
               by_cases c25:0≤(rd ((zq0 ((zqo l0 a1).f3) (ji18)).f1) x44_2)
               ·rw [if_pos c25] at H
                have c25b0:decide (0≤(rd ((zq0 ((zqo l0 a1).f3) (ji18)).f1) x44_2))=true:=decide_eq_true c25
                clear c25
                by_cases c26:(rd ((zq0 ((zqo l0 a1).f3) (ji18)).f1) x44_2)<(l2.length:Int)
                ·rw [if_pos c26] at H
                 have c26b0:decide ((rd ((zq0 ((zqo l0 a1).f3) (ji18)).f1) x44_2)<(l2.length:Int))=true:=decide_eq_true c26
                 clear c26
                 by_cases c27:x10_2.length<4398046511104
                 ·rw [if_pos c27] at H
                  have LMc27:=zqd.mk c27
                  clear c27
                  obtain ⟨y260,hy260⟩:∃ y_:List (S38),y_=(x10_2 ++ [(⟨(zqs l2 (rd ((zq0 ((zqo l0 a1).f3) (ji18)).f1) x44_2)).f0,(zqs l2 (rd ((zq0 ((zqo l0 a1).f3) (ji18)).f1) x44_2)).f1,(zqs l2 (rd ((zq0 ((zqo l0 a1).f3) (ji18)).f1) x44_2)).f2⟩:S38)]):=⟨_,rfl⟩
                  replace H:(zjg.l1 k2 a1 l2 x8_1 x9_1 y260 ((zq0 ((zqo l0 a1).f3) (ji18)).f1) (((zq0 ((zqo l0 a1).f3) (ji18)).f1).length:Int) (wrap64 (x44_2+1)) ((zqo l0 a1).f0) ((zqo l0 a1).f1) ((zqo l0 a1).f2) ((zqo l0 a1).f3))=some r:=by first|(rw [hy260];with_reducible exact H)|(have H2_:=(Option.bind_some _ _).symm.trans H;rw [hy260];with_reducible exact H2_)|(have H2_:=(Option.bind_some _ _).symm.trans H;with_reducible exact H2_)|with_reducible exact H|(rw [hy260];exact H)|exact H
                  have Ny260:=zqd.mk hy260
                  clear hy260
                  have H':=zqd.mk H
                  clear H
                  have p258:0≤(x44_2:Int):=of_decide_eq_true (by first|(with_reducible assumption)|assumption)
                  have q258:x44_2<(((zq0 ((zqo l0 a1).f3) (ji18)).f1).length:Int):=of_decide_eq_true (by first|(with_reducible assumption)|assumption)
                  obtain ⟨ad258,e258,hx258_0⟩:=Kd.zke HR257_1.out x44_2 p258 q258
                  cases e258
                  replace hx258_0:=(HB.out.cell (World.block_lt_of_cell? w _ hx258_0)).trans hx258_0
                  replace p258:=eq_true p258
                  replace q258:=eq_true q258
                  have p259:0≤((rd ((zq0 ((zqo l0 a1).f3) (ji18)).f1) x44_2):Int):=of_decide_eq_true (by first|(with_reducible assumption)|assumption)
                  have q259:(rd ((zq0 ((zqo l0 a1).f3) (ji18)).f1) x44_2)<(l2.length:Int):=of_decide_eq_true (by first|(with_reducible assumption)|assumption)
                  obtain ⟨ad259,e259,hx259_0,hx259_1,hx259_2⟩:=at_T38 HR2.out (rd ((zq0 ((zqo l0 a1).f3) (ji18)).f1) x44_2) p259 q259
                  cases e259
                  replace hx259_0:=(HB.out.cell (World.block_lt_of_cell? w _ hx259_0)).trans hx259_0
                  replace hx259_1:=(HB.out.cell (World.block_lt_of_cell? w _ hx259_1)).trans hx259_1
                  replace hx259_2:=(HB.out.cell (World.block_lt_of_cell? w _ hx259_2)).trans hx259_2
                  replace p259:=eq_true p259
                  replace q259:=eq_true q259
                  go_wp2_with (first|((with_reducible refine zkj (b:=.append) (xs:=#[.tmp 48,.tmp 53]) rfl ?_);at_builtin;refine Kd.zxl k38 (w0:=w) w.heap.size rfl (.tmp 48) (.tmp 53) 23 38 (.agg #[(.int .i64 0),(.int .i64 0),(.string ⟨#[]⟩)]) 32 rfl Tryd.underlying23 info38 rfl (by decide) (by omega) u10 x10_2 (⟨(zqs l2 (rd ((zq0 ((zqo l0 a1).f3) (ji18)).f1) x44_2)).f0,(zqs l2 (rd ((zq0 ((zqo l0 a1).f3) (ji18)).f1) x44_2)).f1,(zqs l2 (rd ((zq0 ((zqo l0 a1).f3) (ji18)).f1) x44_2)).f2⟩:S38) [.int .i64 ((zqs l2 (rd ((zq0 ((zqo l0 a1).f3) (ji18)).f1) x44_2)).f0),.int .i64 ((zqs l2 (rd ((zq0 ((zqo l0 a1).f3) (ji18)).f1) x44_2)).f1),.string ((zqs l2 (rd ((zq0 ((zqo l0 a1).f3) (ji18)).f1) x44_2)).f2)] (fun _=>True) (fun _=>False) rfl rfl ?aP (fun _ hk=>hk.elim) ?aF ?aO ?aB ?aS ?aL ?_;(case aP=>exact k38_mkM _ _ _ (⟨(zqs l2 (rd ((zq0 ((zqo l0 a1).f3) (ji18)).f1) x44_2)).f0,(zqs l2 (rd ((zq0 ((zqo l0 a1).f3) (ji18)).f1) x44_2)).f1,(zqs l2 (rd ((zq0 ((zqo l0 a1).f3) (ji18)).f1) x44_2)).f2⟩:S38));(case aB=>exact(by repeat(first|(with_reducible first|exact HB.out|apply zqb|apply zqa|apply zqc|refine zqi ?_ GE247.out)|exact HB.out)));(case aF=>exact(fun _ _=>trivial));(case aO=>exact(by(with_reducible repeat(first|apply Kd.zq4|apply Kd.zq5|apply Kd.zq7));exact HO_10.out));(case aS=>exact(zqk (by repeat(first|(with_reducible first|exact HB.out|apply zqb|apply zqa|apply zqc|refine zqi ?_ GE247.out)|exact HB.out))));(case aL=>have:=LMc27.out;omega);intro v261 w28 ho hb hg hat;rw [← Ny260.out] at ho;have n0_:=zqd.mk (Kd.S_over' (by(with_reducible repeat(first|apply Kd.zxj|apply Kd.zxi|apply Kd.zxx));exact HO_8.out) (Kd.R_typed (by(with_reducible repeat(first|apply Kd.zq4|apply Kd.zq5|apply Kd.zq7));exact HO_10.out)) (by decide) hg);have n1_:=zqd.mk (blk_grown (g:=gb247) (o:=.cells #[.string ((zqo l0 a1).f0),.slice A246_1 ((zqo l0 a1).f1).length c246_1,.slice A246_2 ((zqo l0 a1).f2).length c246_2,.slice (some ad257) ((zqo l0 a1).f3).length c246_3] 61 (0,0)) (by(with_reducible repeat(first|refine zqg ?_ _|refine zqj ?_|refine zqh ?_ _));exact BK247.out) hg (Kd.R_ne HO_10.out BK247.out (by decide)));have n2_:=zqd.mk (hb);have n3_:=zqd.mk (ho);clear HO_8 BK247 HB HO_10;have HO_8:=n0_;have BK247:=n1_;have HB:=n2_;have HO262:=n3_;clear n0_ n1_ n2_ n3_ ho hb hg hat))
                  go_roundg k2
                  case measure=>have:=HK1.out;have:=HK2.out;omega
                  case rel=>exact⟨(y260),(wrap64 (x44_2+1)),(by first|rfl|(simp;done)|(simp [*];done)|(generalize ByteArray.toList _=q_;cases q_ <;> rfl)),H',⟨by have:=HK1.out;have:=HK2.out;omega⟩,⟨by(with_reducible repeat(first|apply Kd.zxj|apply Kd.zxi|apply Kd.zxx));exact HO_8.out⟩,⟨by(with_reducible repeat(first|apply Kd.zq4|apply Kd.zq5|apply Kd.zq7));exact HO262.out⟩,⟨by(with_reducible repeat(first|refine zqg ?_ _|refine zqj ?_|refine zqh ?_ _));exact BK247.out⟩,⟨by repeat(first|(with_reducible first|exact HB.out|apply zqb|apply zqa|apply zqc|refine zqi ?_ GE247.out)|exact HB.out)⟩⟩
                 ·rw [if_neg c27] at H
                  exact absurd H (by simp)
                ·rw [if_neg c26] at H
                 exact absurd H (by simp)
               ·rw [if_neg c25] at H
                exact absurd H (by simp)
              ·rw [if_neg c24] at H
               exact absurd H (by simp)
             ·rw [if_neg c23] at H
              exact absurd H (by simp)
            ·rw [if_neg c22] at H
             have c22b0:decide (x44_2<(((zq0 ((zqo l0 a1).f3) (ji18)).f1).length:Int))=false:=decide_eq_false c22
             clear c22
             have H':=zqd.mk H
             clear H
             go_wp2
             go_meet
             case rel=>exact⟨_,(x10_2),H',⟨by have:=HK1.out;have:=HK2.out;first|omega|exact Nat.le_refl _⟩,⟨by(with_reducible repeat(first|apply Kd.zxj|apply Kd.zxi|apply Kd.zxx));exact HO_8.out⟩,⟨by(with_reducible repeat(first|apply Kd.zq4|apply Kd.zq5|apply Kd.zq7));exact HO_10.out⟩,⟨by(with_reducible repeat(first|refine zqg ?_ _|refine zqj ?_|refine zqh ?_ _));exact BK247.out⟩,⟨by repeat(first|(with_reducible first|exact HB.out|apply zqb|apply zqa|apply zqc|refine zqi ?_ GE247.out)|exact HB.out)⟩⟩
         ·rw [if_neg c20] at H
          exact absurd H (by simp)
        ·rw [if_neg c19] at H
         exact absurd H (by simp)
       ·rw [if_neg c17] at H
        have c17b0:decide (0<x9_1)=false:=decide_eq_false c17
        clear c17
        (first|rw [c17b0]|(simp only [zx6,zx8];rw [c17b0])|skip)
        have H':=zqd.mk H
        clear H
        go_wp2
        go_meet
        case rel=>exact⟨_,(y254),H',⟨by have:=HK1.out;first|omega|exact Nat.le_refl _⟩,⟨by(with_reducible repeat(first|apply Kd.zxj|apply Kd.zxi|apply Kd.zxx));exact HO_8.out⟩,⟨by(with_reducible repeat(first|apply Kd.zq4|apply Kd.zq5|apply Kd.zq7));exact HO256.out⟩,⟨by(with_reducible repeat(first|refine zqg ?_ _|refine zqj ?_|refine zqh ?_ _));exact BK247.out⟩,⟨by repeat(first|(with_reducible first|exact HB.out|apply zqb|apply zqa|apply zqc|refine zqi ?_ GE247.out)|exact HB.out)⟩⟩
      case rest=>
       clear HC11
       try clear c1
       try clear c2
       try clear p2
       try clear q2
       try clear hx2
       try clear c3
       try clear c4
       try clear c4b0
       try clear c5
       try clear c5b0
       try clear c6
       try clear p6
       try clear c8
       try clear c8b0
       try clear c17
       try clear c17b0
       try clear c19
       try clear c19b0
       try clear c20
       try clear c20b0
       try clear c22
       try clear c22b0
       try clear c23
       try clear c23b0
       try clear c24
       try clear c24b0
       try clear p24
       try clear q24
       try clear hx24
       try clear c25
       try clear c25b0
       try clear p25
       try clear q25
       try clear hx25
       try clear c26
       try clear c26b0
       try clear c27
       try clear hcz12_0
       try clear hcz12_1
       try clear hcz12_2
       try clear hcz12_3
       try clear hcz21_0
       try clear hcz21_1
       try clear hcz21_2
       try clear hcz21_3
       try clear hcz7_0
       try clear hcz7_1
       try clear hcz7_2
       try clear hcz7_3
       try clear hfz12_0
       try clear hfz12_1
       try clear hfz12_2
       try clear hfz12_3
       try clear hfz21_0
       try clear hfz21_1
       try clear hfz21_2
       try clear hfz21_3
       try clear hfz7_0
       try clear hfz7_1
       try clear hfz7_2
       try clear hfz7_3
       try clear hx246_0
       try clear hx246_1
       try clear hx246_2
       try clear hx246_3
       try clear hx257_0
       try clear hx257_1
       try clear hx258_0
       try clear hx259_0
       try clear hx259_1
       try clear hx259_2
       try clear p2
       try clear p246
       try clear p257
       try clear p258
       try clear p259
       try clear p6
       try clear q2
       try clear q246
       try clear q257
       try clear q258
       try clear q259
       obtain ⟨kq,x10_10,HA,HJ10,HO_8,HO_10,BK247,HB⟩:=hcut
       cases kq with
       | zero=>exact absurd HA.out (by simp [zjg.j2])
       | succ kj10=>
        have H:=HA.out
        clear HA
        simp only [zjg.j2] at H
        have H':=zqd.mk H
        clear H
        have hcz29_0:wc.cell? ⟨gb247,0,none⟩=some (.string ((zqo l0 a1).f0)):=(zqf BK247.out 0).trans rfl
        have hcz29_1:wc.cell? ⟨gb247,1,none⟩=some (.slice A246_1 ((zqo l0 a1).f1).length c246_1):=(zqf BK247.out 1).trans rfl
        have hcz29_2:wc.cell? ⟨gb247,2,none⟩=some (.slice A246_2 ((zqo l0 a1).f2).length c246_2):=(zqf BK247.out 2).trans rfl
        have hcz29_3:wc.cell? ⟨gb247,3,none⟩=some (.slice A246_3 ((zqo l0 a1).f3).length c246_3):=(zqf BK247.out 3).trans rfl
        have hfz29_0:=zqe BK247.out 0
        have hfz29_1:=zqe BK247.out 1
        have hfz29_2:=zqe BK247.out 2
        have hfz29_3:=zqe BK247.out 3
        go_wp2
        go_loopg [10,59] kj10 (fun kq v10 v59 w' => ∃ (x10_3:List (S38)) (x59_3:Int),v59 = .int .i64 x59_3∧zqd (zjg.l2 kq a1 l2 x8_1 x9_1 x10_3 ((zqo l0 a1).f2) (((zqo l0 a1).f2).length:Int) x59_3 ((zqo l0 a1).f0) ((zqo l0 a1).f1) ((zqo l0 a1).f2) ((zqo l0 a1).f3)=some r)∧zqd (kq≤kj10)∧zqd (Kd.S k32 32 w' w.heap.size (fun _=>True) u8 x8_1)∧zqd (Kd.R k38 38 w' w.heap.size (fun _=>True) v10 x10_3)∧zqd (w'.heap[gb247]? = some (.cells #[.string ((zqo l0 a1).f0),(.slice A246_1 ((zqo l0 a1).f1).length c246_1),(.slice A246_2 ((zqo l0 a1).f2).length c246_2),(.slice A246_3 ((zqo l0 a1).f3).length c246_3)] 61 (0,0)))∧zqd (Below w.heap.size w w'))
        case atStart=>exact⟨(x10_10),(0),(by first|rfl|(simp;done)|(simp [*];done)|(generalize ByteArray.toList _=q_;cases q_ <;> rfl)),H',⟨Nat.le_refl _⟩,⟨by(with_reducible repeat(first|apply Kd.zxj|apply Kd.zxi|apply Kd.zxx));exact HO_8.out⟩,⟨by(with_reducible repeat(first|apply Kd.zq4|apply Kd.zq5|apply Kd.zq7));exact HO_10.out⟩,⟨by(with_reducible repeat(first|refine zqg ?_ _|refine zqj ?_|refine zqh ?_ _));exact BK247.out⟩,⟨by repeat(first|(with_reducible first|exact HB.out|apply zqb|apply zqa|apply zqc|refine zqi ?_ GE247.out)|exact HB.out)⟩⟩
        case round=>
         clear H'
         try clear c1
         try clear c2
         try clear p2
         try clear q2
         try clear hx2
         try clear c3
         try clear c4
         try clear c4b0
         try clear c5
         try clear c5b0
         try clear c6
         try clear p6
         try clear c8
         try clear c8b0
         try clear c17
         try clear c17b0
         try clear c19
         try clear c19b0
         try clear c20
         try clear c20b0
         try clear c22
         try clear c22b0
         try clear c23
         try clear c23b0
         try clear c24
         try clear c24b0
         try clear p24
         try clear q24
         try clear hx24
         try clear c25
         try clear c25b0
         try clear p25
         try clear q25
         try clear hx25
         try clear c26
         try clear c26b0
         try clear c27
         try clear hcz12_0
         try clear hcz12_1
         try clear hcz12_2
         try clear hcz12_3
         try clear hcz21_0
         try clear hcz21_1
         try clear hcz21_2
         try clear hcz21_3
         try clear hcz29_0
         try clear hcz29_1
         try clear hcz29_2
         try clear hcz29_3
         try clear hcz7_0
         try clear hcz7_1
         try clear hcz7_2
         try clear hcz7_3
         try clear hfz12_0
         try clear hfz12_1
         try clear hfz12_2
         try clear hfz12_3
         try clear hfz21_0
         try clear hfz21_1
         try clear hfz21_2
         try clear hfz21_3
         try clear hfz29_0
         try clear hfz29_1
         try clear hfz29_2
         try clear hfz29_3
         try clear hfz7_0
         try clear hfz7_1
         try clear hfz7_2
         try clear hfz7_3
         try clear hx246_0
         try clear hx246_1
         try clear hx246_2
         try clear hx246_3
         try clear hx257_0
         try clear hx257_1
         try clear hx258_0
         try clear hx259_0
         try clear hx259_1
         try clear hx259_2
         try clear p2
         try clear p24
         try clear p246
         try clear p25
         try clear p257
         try clear p258
         try clear p259
         try clear p6
         try clear q2
         try clear q24
         try clear q246
         try clear q25
         try clear q257
         try clear q258
         try clear q259
         obtain ⟨x10_3,x59_3,rfl,HA,HK3,HO_8,HO_10,BK247,HB⟩:=hrel
         cases gk with
         | zero=>exact absurd HA.out (by simp [zjg.l2])
         | succ k3=>
          have H:=HA.out
          clear HA
          simp only [zjg.l2] at H
          by_cases c30:x59_3<(((zqo l0 a1).f2).length:Int)
          ·rw [if_pos c30] at H
           have c30b0:decide (x59_3<(((zqo l0 a1).f2).length:Int))=true:=decide_eq_true c30
           clear c30
           by_cases c31:0≤x59_3
           ·rw [if_pos c31] at H
            have c31b0:decide (0≤x59_3)=true:=decide_eq_true c31
            clear c31
            by_cases c32:x59_3<(((zqo l0 a1).f2).length:Int)
            ·rw [if_pos c32] at H
             have c32b0:decide (x59_3<(((zqo l0 a1).f2).length:Int))=true:=decide_eq_true c32
             clear c32
             by_cases c33:0≤(rd ((zqo l0 a1).f2) x59_3)
             ·rw [if_pos c33] at H
              have c33b0:decide (0≤(rd ((zqo l0 a1).f2) x59_3))=true:=decide_eq_true c33
              clear c33
              by_cases c34:(rd ((zqo l0 a1).f2) x59_3)<(l2.length:Int)
              ·rw [if_pos c34] at H
               have c34b0:decide ((rd ((zqo l0 a1).f2) x59_3)<(l2.length:Int))=true:=decide_eq_true c34
               clear c34
               by_cases c35:x10_3.length<4398046511104
               ·rw [if_pos c35] at H
                have LMc35:=zqd.mk c35
                clear c35
                obtain ⟨y265,hy265⟩:∃ y_:List (S38),y_=(x10_3 ++ [(⟨(zqs l2 (rd ((zqo l0 a1).f2) x59_3)).f0,(zqs l2 (rd ((zqo l0 a1).f2) x59_3)).f1,(zqs l2 (rd ((zqo l0 a1).f2) x59_3)).f2⟩:S38)]):=⟨_,rfl⟩
                replace H:(zjg.l2 k3 a1 l2 x8_1 x9_1 y265 ((zqo l0 a1).f2) (((zqo l0 a1).f2).length:Int) (wrap64 (x59_3+1)) ((zqo l0 a1).f0) ((zqo l0 a1).f1) ((zqo l0 a1).f2) ((zqo l0 a1).f3))=some r:=by first|(rw [hy265];with_reducible exact H)|(have H2_:=(Option.bind_some _ _).symm.trans H;rw [hy265];with_reducible exact H2_)|(have H2_:=(Option.bind_some _ _).symm.trans H;with_reducible exact H2_)|with_reducible exact H|(rw [hy265];exact H)|exact H
                have Ny265:=zqd.mk hy265
                clear hy265
                have H':=zqd.mk H
                clear H
                have p263:0≤(x59_3:Int):=of_decide_eq_true (by first|(with_reducible assumption)|assumption)
                have q263:x59_3<(((zqo l0 a1).f2).length:Int):=of_decide_eq_true (by first|(with_reducible assumption)|assumption)
                obtain ⟨ad263,e263,hx263_0⟩:=Kd.zke HR246_2.out x59_3 p263 q263
                cases e263
                replace hx263_0:=(HB.out.cell (World.block_lt_of_cell? w _ hx263_0)).trans hx263_0
                replace p263:=eq_true p263
                replace q263:=eq_true q263
                have p264:0≤((rd ((zqo l0 a1).f2) x59_3):Int):=of_decide_eq_true (by first|(with_reducible assumption)|assumption)
                have q264:(rd ((zqo l0 a1).f2) x59_3)<(l2.length:Int):=of_decide_eq_true (by first|(with_reducible assumption)|assumption)
                obtain ⟨ad264,e264,hx264_0,hx264_1,hx264_2⟩:=at_T38 HR2.out (rd ((zqo l0 a1).f2) x59_3) p264 q264
                cases e264
                replace hx264_0:=(HB.out.cell (World.block_lt_of_cell? w _ hx264_0)).trans hx264_0
                replace hx264_1:=(HB.out.cell (World.block_lt_of_cell? w _ hx264_1)).trans hx264_1
                replace hx264_2:=(HB.out.cell (World.block_lt_of_cell? w _ hx264_2)).trans hx264_2
                replace p264:=eq_true p264
                replace q264:=eq_true q264
                go_wp2_with (first|((with_reducible refine zkj (b:=.append) (xs:=#[.tmp 63,.tmp 68]) rfl ?_);at_builtin;refine Kd.zxl k38 (w0:=w) w.heap.size rfl (.tmp 63) (.tmp 68) 23 38 (.agg #[(.int .i64 0),(.int .i64 0),(.string ⟨#[]⟩)]) 32 rfl Tryd.underlying23 info38 rfl (by decide) (by omega) u10 x10_3 (⟨(zqs l2 (rd ((zqo l0 a1).f2) x59_3)).f0,(zqs l2 (rd ((zqo l0 a1).f2) x59_3)).f1,(zqs l2 (rd ((zqo l0 a1).f2) x59_3)).f2⟩:S38) [.int .i64 ((zqs l2 (rd ((zqo l0 a1).f2) x59_3)).f0),.int .i64 ((zqs l2 (rd ((zqo l0 a1).f2) x59_3)).f1),.string ((zqs l2 (rd ((zqo l0 a1).f2) x59_3)).f2)] (fun _=>True) (fun _=>False) rfl rfl ?aP (fun _ hk=>hk.elim) ?aF ?aO ?aB ?aS ?aL ?_;(case aP=>exact k38_mkM _ _ _ (⟨(zqs l2 (rd ((zqo l0 a1).f2) x59_3)).f0,(zqs l2 (rd ((zqo l0 a1).f2) x59_3)).f1,(zqs l2 (rd ((zqo l0 a1).f2) x59_3)).f2⟩:S38));(case aB=>exact(by repeat(first|(with_reducible first|exact HB.out|apply zqb|apply zqa|apply zqc|refine zqi ?_ GE247.out)|exact HB.out)));(case aF=>exact(fun _ _=>trivial));(case aO=>exact(by(with_reducible repeat(first|apply Kd.zq4|apply Kd.zq5|apply Kd.zq7));exact HO_10.out));(case aS=>exact(zqk (by repeat(first|(with_reducible first|exact HB.out|apply zqb|apply zqa|apply zqc|refine zqi ?_ GE247.out)|exact HB.out))));(case aL=>have:=LMc35.out;omega);intro v266 w36 ho hb hg hat;rw [← Ny265.out] at ho;have n0_:=zqd.mk (Kd.S_over' (by(with_reducible repeat(first|apply Kd.zxj|apply Kd.zxi|apply Kd.zxx));exact HO_8.out) (Kd.R_typed (by(with_reducible repeat(first|apply Kd.zq4|apply Kd.zq5|apply Kd.zq7));exact HO_10.out)) (by decide) hg);have n1_:=zqd.mk (blk_grown (g:=gb247) (o:=.cells #[.string ((zqo l0 a1).f0),.slice A246_1 ((zqo l0 a1).f1).length c246_1,.slice (some ad263) ((zqo l0 a1).f2).length c246_2,.slice A246_3 ((zqo l0 a1).f3).length c246_3] 61 (0,0)) (by(with_reducible repeat(first|refine zqg ?_ _|refine zqj ?_|refine zqh ?_ _));exact BK247.out) hg (Kd.R_ne HO_10.out BK247.out (by decide)));have n2_:=zqd.mk (hb);have n3_:=zqd.mk (ho);clear HO_8 BK247 HB HO_10;have HO_8:=n0_;have BK247:=n1_;have HB:=n2_;have HO267:=n3_;clear n0_ n1_ n2_ n3_ ho hb hg hat))
                go_roundg k3
                case measure=>have:=HK1.out;have:=HJ10.out;have:=HK3.out;omega
                case rel=>exact⟨(y265),(wrap64 (x59_3+1)),(by first|rfl|(simp;done)|(simp [*];done)|(generalize ByteArray.toList _=q_;cases q_ <;> rfl)),H',⟨by have:=HK1.out;have:=HJ10.out;have:=HK3.out;omega⟩,⟨by(with_reducible repeat(first|apply Kd.zxj|apply Kd.zxi|apply Kd.zxx));exact HO_8.out⟩,⟨by(with_reducible repeat(first|apply Kd.zq4|apply Kd.zq5|apply Kd.zq7));exact HO267.out⟩,⟨by(with_reducible repeat(first|refine zqg ?_ _|refine zqj ?_|refine zqh ?_ _));exact BK247.out⟩,⟨by repeat(first|(with_reducible first|exact HB.out|apply zqb|apply zqa|apply zqc|refine zqi ?_ GE247.out)|exact HB.out)⟩⟩
               ·rw [if_neg c35] at H
                exact absurd H (by simp)
              ·rw [if_neg c34] at H
               exact absurd H (by simp)
             ·rw [if_neg c33] at H
              exact absurd H (by simp)
            ·rw [if_neg c32] at H
             exact absurd H (by simp)
           ·rw [if_neg c31] at H
            exact absurd H (by simp)
          ·rw [if_neg c30] at H
           have c30b0:decide (x59_3<(((zqo l0 a1).f2).length:Int))=false:=decide_eq_false c30
           clear c30
           replace H:=Option.bind_eq_some_iff.mp H
           obtain ⟨⟨t268,t269⟩,A370,H⟩:=H
           replace H:(if x9_1=0 then((zjc.f k3 l2).bind fun bt273=>(if x8_1.length<2932031007402 then(zjg.l0 k3 a1 l2 (x8_1 ++ [(⟨t268,bt273.1⟩:S32)]) (wrap64 (x9_1+1)) ((zqo l0 a1).f0) ((zqo l0 a1).f1) ((zqo l0 a1).f2) ((zqo l0 a1).f3)) else (none))) else (if x8_1.length<2932031007402 then(zjg.l0 k3 a1 l2 (x8_1 ++ [(⟨t268,([]:List Int)⟩:S32)]) (wrap64 (x9_1+1)) ((zqo l0 a1).f0) ((zqo l0 a1).f1) ((zqo l0 a1).f2) ((zqo l0 a1).f3)) else (none)))=some r:=H
           have A37:=zqd.mk A370
           clear A370
           by_cases c38:x9_1=0
           ·rw [if_pos c38] at H
            have c38b0:(x9_1 == 0)=true:=beq_iff_eq.mpr c38
            have c38b1:(x9_1 != 0)=false:=bne_eq_false_iff_eq.mpr c38
            clear c38
            replace H:=Option.bind_eq_some_iff.mp H
            obtain ⟨⟨t273,t274⟩,A390,H⟩:=H
            replace H:(if x8_1.length<2932031007402 then(zjg.l0 k3 a1 l2 (x8_1 ++ [(⟨t268,t273⟩:S32)]) (wrap64 (x9_1+1)) ((zqo l0 a1).f0) ((zqo l0 a1).f1) ((zqo l0 a1).f2) ((zqo l0 a1).f3)) else (none))=some r:=H
            have A39:=zqd.mk A390
            clear A390
            by_cases c40:x8_1.length<2932031007402
            ·rw [if_pos c40] at H
             have LMc40:=zqd.mk c40
             clear c40
             obtain ⟨y277,hy277⟩:∃ y_:List (S32),y_=(x8_1 ++ [(⟨t268,t273⟩:S32)]):=⟨_,rfl⟩
             replace H:(zjg.l0 k3 a1 l2 y277 (wrap64 (x9_1+1)) ((zqo l0 a1).f0) ((zqo l0 a1).f1) ((zqo l0 a1).f2) ((zqo l0 a1).f3))=some r:=by first|(rw [hy277];with_reducible exact H)|(have H2_:=(Option.bind_some _ _).symm.trans H;rw [hy277];with_reducible exact H2_)|(have H2_:=(Option.bind_some _ _).symm.trans H;with_reducible exact H2_)|with_reducible exact H|(rw [hy277];exact H)|exact H
             have Ny277:=zqd.mk hy277
             clear hy277
             have H':=zqd.mk H
             clear H
             obtain ⟨Ao41,co41,eo41⟩:=Kd.zx7 HO_10.out
             subst eo41
             go_wp2_with (first|((with_reducible refine zqv (f:=63) rfl ?_);refine zq8 (some 73) rfl rfl Tryd.func63 (by kernel_rfl) rfl #[.slice Ao41 x10_3.length co41] rfl (by(try simp only [List.map_toArray,List.map_cons,List.map_nil]);first|done|rfl|(simp only [List.length_drop,List.length_take];rfl)) ?_;(with_reducible refine(zjc.calls k3 _ _ x10_3 t268 t269 _ ?side1 ?side2 A37.out).mono ?_);(case side1=>repeat(first|exact(Kd.zxu HO_10.out).2.2|(with_reducible refine Kd.zqw ?_ _)|(with_reducible refine Kd.zqy ?_ _)|(with_reducible refine Kd.zq2 ?_)));(case side2=>exact(Kd.zxu HO_10.out).2.1);rintro e w42 ⟨v270,rfl,ho0,hb⟩;refine⟨_,rfl,?_⟩;have n0_:=zqd.mk (Kd.S_elder' (by(with_reducible repeat(first|apply Kd.zxj|apply Kd.zxi|apply Kd.zxx));exact HO_8.out) (Kd.R_base ho0) hb);have n1_:=zqd.mk (Kd.zxy (by(with_reducible repeat(first|apply Kd.zq4|apply Kd.zq5|apply Kd.zq7));exact HO_10.out) hb);have n2_:=zqd.mk (Kd.zko ho0 (zqk (by repeat(first|(with_reducible first|exact HB.out|apply zqb|apply zqa|apply zqc|refine zqi ?_ GE247.out)|exact HB.out))));have n3_:=zqd.mk (zqr (g:=gb247) (o:=.cells #[.string ((zqo l0 a1).f0),.slice A246_1 ((zqo l0 a1).f1).length c246_1,.slice A246_2 ((zqo l0 a1).f2).length c246_2,.slice A246_3 ((zqo l0 a1).f3).length c246_3] 61 (0,0)) (by(with_reducible repeat(first|refine zqg ?_ _|refine zqj ?_|refine zqh ?_ _));exact BK247.out) hb);have n4_:=zqd.mk (zqn (by repeat(first|(with_reducible first|exact HB.out|apply zqb|apply zqa|apply zqc|refine zqi ?_ GE247.out)|exact HB.out)) hb);clear HO_8 HO_10 BK247 HB;have HO_8:=n0_;have HO_10:=n1_;have HO271:=n2_;have BK247:=n3_;have HB:=n4_;clear n0_ n1_ n2_ n3_ n4_;(try clear hb);(try clear hb2);(try clear hk);(try clear hi);(try clear ho0);obtain ⟨Ao43,co43,eo43⟩:=Kd.zx7 HO271.out;subst eo43)|((with_reducible refine zqx (N:=17) rfl ?_);refine zqt ?hg (N:=17) ?hd (cs:=#[.slice none 0 0,.slice none 0 0]) (t:=32) ?hr ?_;(case hd=>rfl);(case hg=>rfl);(case hr=>first|(go_simp;done)|(go_simp;rfl));intro gb272 hg w44 hbox hb;have n0_:=zqd.mk (Kd.S_below (Kd.S_elderB (by(with_reducible repeat(first|apply Kd.zxj|apply Kd.zxi|apply Kd.zxx));exact HO_8.out) gb272 (Nat.le_of_eq hg.symm)) hb);have n1_:=zqd.mk (Kd.zxy (by(with_reducible repeat(first|apply Kd.zq4|apply Kd.zq5|apply Kd.zq7));exact HO_10.out) hb);have n2_:=zqd.mk (Kd.zxy (by(with_reducible repeat(first|apply Kd.zq4|apply Kd.zq5|apply Kd.zq7));exact HO271.out) hb);have n3_:=zqd.mk (zqr (g:=gb247) (o:=.cells #[.string ((zqo l0 a1).f0),.slice A246_1 ((zqo l0 a1).f1).length c246_1,.slice A246_2 ((zqo l0 a1).f2).length c246_2,.slice A246_3 ((zqo l0 a1).f3).length c246_3] 61 (0,0)) (by(with_reducible repeat(first|refine zqg ?_ _|refine zqj ?_|refine zqh ?_ _));exact BK247.out) hb);have n4_:=zqd.mk (zqn (by repeat(first|(with_reducible first|exact HB.out|apply zqb|apply zqa|apply zqc|refine zqi ?_ GE247.out)|exact HB.out)) hb);have n5_:=zqd.mk (hbox);have n6_:=zqd.mk ((by rw [hg];exact(zqk (by repeat(first|(with_reducible first|exact HB.out|apply zqb|apply zqa|apply zqc|refine zqi ?_ GE247.out)|exact HB.out))):w.heap.size≤gb272));have n7_:=zqd.mk ((by rw [hg];exact(zqk (by repeat(first|(with_reducible first|exact HB.out|apply zqb|apply zqa|apply zqc|refine zqi ?_ GE247.out)|exact HB.out))):w.heap.size≤gb272));have n8_:=zqd.mk ((by rw [hg];exact Nat.ne_of_lt (zxh (g:=gb247) (o:=.cells #[.string ((zqo l0 a1).f0),.slice A246_1 ((zqo l0 a1).f1).length c246_1,.slice A246_2 ((zqo l0 a1).f2).length c246_2,.slice A246_3 ((zqo l0 a1).f3).length c246_3] 61 (0,0)) (by(with_reducible repeat(first|refine zqg ?_ _|refine zqj ?_|refine zqh ?_ _));exact BK247.out)):gb247≠gb272));have n9_:=zqd.mk ((by rw [hg];exact Nat.ne_of_gt (zxh (g:=gb247) (o:=.cells #[.string ((zqo l0 a1).f0),.slice A246_1 ((zqo l0 a1).f1).length c246_1,.slice A246_2 ((zqo l0 a1).f2).length c246_2,.slice A246_3 ((zqo l0 a1).f3).length c246_3] 61 (0,0)) (by(with_reducible repeat(first|refine zqg ?_ _|refine zqj ?_|refine zqh ?_ _));exact BK247.out)):gb272≠gb247));clear HO_8 HO_10 HO271 BK247 HB;have HO_8:=n0_;have HO_10:=n1_;have HO271:=n2_;have BK247:=n3_;have HB:=n4_;have BK272:=n5_;have GW272:=n6_;have GE272:=n7_;have NB247_272:=n8_;have NB272_247:=n9_;clear n0_ n1_ n2_ n3_ n4_ n5_ n6_ n7_ n8_ n9_ hb hbox hg;have hnb45:=NB272_247.out;have hnc45:=NB247_272.out;have hcz46_0:w44.cell? ⟨gb272,0,none⟩=some (.slice none 0 0):=(zqf BK272.out 0).trans rfl;have hcz46_1:w44.cell? ⟨gb272,1,none⟩=some (.slice none 0 0):=(zqf BK272.out 1).trans rfl;have hfz46_0:=zqe BK272.out 0;have hfz46_1:=zqe BK272.out 1)|((with_reducible refine zqv (f:=63) rfl ?_);refine zq8 (some 82) rfl rfl Tryd.func63 (by kernel_rfl) rfl #[.slice A2 l2.length c2] rfl (by(try simp only [List.map_toArray,List.map_cons,List.map_nil]);first|done|rfl|(simp only [List.length_drop,List.length_take];rfl)) ?_;(with_reducible refine(zjc.calls k3 _ _ l2 t273 t274 _ ?side1 ?side2 A39.out).mono ?_);(case side1=>exact Kd.zq3 HR2.out (by repeat(first|(with_reducible first|exact HB.out|apply zqb|apply zqa|apply zqc|refine zqi ?_ GE247.out|refine zqi ?_ GE272.out)|exact HB.out)));(case side2=>exact HC2.out);rintro e w47 ⟨v275,rfl,ho0,hb⟩;refine⟨_,rfl,?_⟩;have n0_:=zqd.mk (Kd.S_elder' (by(with_reducible repeat(first|apply Kd.zxj|apply Kd.zxi|apply Kd.zxx));exact(Kd.S_mono (Kd.S_far (p:=⟨gb272,1,none⟩) (Kd.S_far (p:=⟨gb272,0,none⟩) (Kd.S_mono HO_8.out (fun k_ hk=>(⟨hk,hk.2⟩:_∧k_≠gb272))) (fun _ hk=>hk.2) (.slice Ao43 t268.length co43)) (fun _ hk=>hk.2) (.slice none 0 0)) (fun _ h_=>h_.1))) (Kd.R_base ho0) hb);have n1_:=zqd.mk (Kd.zxy (by(with_reducible repeat(first|apply Kd.zq4|apply Kd.zq5|apply Kd.zq7));exact(Kd.zja (Kd.R_far (p:=⟨gb272,1,none⟩) (Kd.R_far (p:=⟨gb272,0,none⟩) (Kd.zki HO_10.out BK272.out (by decide)) (fun _ hk=>hk.2) (.slice Ao43 t268.length co43)) (fun _ hk=>hk.2) (.slice none 0 0)) (fun _ h_=>h_.1))) hb);have n2_:=zqd.mk (Kd.R_elder' (by(with_reducible repeat(first|apply Kd.zq4|apply Kd.zq5|apply Kd.zq7));exact(Kd.zja (Kd.R_far (p:=⟨gb272,1,none⟩) (Kd.R_far (p:=⟨gb272,0,none⟩) (Kd.zki HO271.out BK272.out (by decide)) (fun _ hk=>hk.2) (.slice Ao43 t268.length co43)) (fun _ hk=>hk.2) (.slice none 0 0)) (fun _ h_=>h_.1))) (Kd.R_base ho0) hb);have n3_:=zqd.mk (Kd.zko (Kd.R_new' ho0 (Kd.R_lt (by(with_reducible repeat(first|apply Kd.zq4|apply Kd.zq5|apply Kd.zq7));exact(Kd.zja (Kd.R_far (p:=⟨gb272,1,none⟩) (Kd.R_far (p:=⟨gb272,0,none⟩) (Kd.zki HO271.out BK272.out (by decide)) (fun _ hk=>hk.2) (.slice Ao43 t268.length co43)) (fun _ hk=>hk.2) (.slice none 0 0)) (fun _ h_=>h_.1))))) (zqk (by repeat(first|(with_reducible first|exact HB.out|apply zqb|apply zqa|apply zqc|refine zqi ?_ GE247.out|refine zqi ?_ GE272.out)|exact HB.out))));have n4_:=zqd.mk (zqr (g:=gb247) (o:=.cells #[.string ((zqo l0 a1).f0),.slice A246_1 ((zqo l0 a1).f1).length c246_1,.slice A246_2 ((zqo l0 a1).f2).length c246_2,.slice A246_3 ((zqo l0 a1).f3).length c246_3] 61 (0,0)) (by(with_reducible repeat(first|refine zqg ?_ _|refine zqj ?_|refine zqh ?_ _));refine zq1 ?_ NB247_272.out _;(with_reducible repeat(first|refine zqg ?_ _|refine zqj ?_|refine zqh ?_ _));refine zq1 ?_ NB247_272.out _;(with_reducible repeat(first|refine zqg ?_ _|refine zqj ?_|refine zqh ?_ _));exact BK247.out) hb);have n5_:=zqd.mk (zqr (g:=gb272) (o:=.cells #[.slice Ao43 t268.length co43,.slice none 0 0] 32 (0,0)) (by(with_reducible repeat(first|refine zqg ?_ _|refine zqj ?_|refine zqh ?_ _));refine zqu (cs:=#[.slice Ao43 t268.length co43,.slice none 0 0]) ?_ 1 _ rfl;(with_reducible repeat(first|refine zqg ?_ _|refine zqj ?_|refine zqh ?_ _));refine zqu (cs:=#[.slice none 0 0,.slice none 0 0]) ?_ 0 _ rfl;(with_reducible repeat(first|refine zqg ?_ _|refine zqj ?_|refine zqh ?_ _));exact BK272.out) hb);have n6_:=zqd.mk (zqn (by repeat(first|(with_reducible first|exact HB.out|apply zqb|apply zqa|apply zqc|refine zqi ?_ GE247.out|refine zqi ?_ GE272.out)|exact HB.out)) hb);clear HO_8 HO_10 HO271 BK247 BK272 HB;have HO_8:=n0_;have HO_10:=n1_;have HO271:=n2_;have HO276:=n3_;have BK247:=n4_;have BK272:=n5_;have HB:=n6_;clear n0_ n1_ n2_ n3_ n4_ n5_ n6_;(try clear hb);(try clear hb2);(try clear hk);(try clear hi);(try clear ho0);obtain ⟨Ao48,co48,eo48⟩:=Kd.zx7 HO276.out;subst eo48;have hcz49_0:w47.cell? ⟨gb272,0,none⟩=some (.slice Ao43 t268.length co43):=(zqf BK272.out 0).trans rfl;have hcz49_1:w47.cell? ⟨gb272,1,none⟩=some (.slice none 0 0):=(zqf BK272.out 1).trans rfl;have hfz49_0:=zqe BK272.out 0;have hfz49_1:=zqe BK272.out 1)|((with_reducible refine gate_store (t:=30) (p:=85) rfl ?_);refine store_event (t:=30) (p:=85) (v:=?vo_w50) (w1:=(w47.setCell ⟨gb272,1,none⟩ (.slice Ao48 t273.length co48))) ?hg ?ho ?hn ?hr ?_;(case ho=>rfl);(case hg=>rfl);(case hn=>rfl);(case hr=>first|(go_simp;done)|(go_simp;rfl));intro w50 hw;have n0_:zqd (Kd.S k32 32 w50 w.heap.size (fun k_=>some k_≠(.slice Ao43 t268.length co43:Value).ownBlock∧some k_≠(.slice Ao48 t273.length co48:Value).ownBlock∧k_≠gb272) u8 x8_1):=⟨(by rw [hw];exact(by(with_reducible repeat(first|apply Kd.zxj|apply Kd.zxi|apply Kd.zxx));exact Kd.S_mono (Kd.S_far (p:=⟨gb272,1,none⟩) (Kd.S_mono HO_8.out (fun k_ hk=>(⟨hk,hk.1.2⟩:_∧k_≠gb272))) (fun _ hk=>hk.2) (.slice Ao48 t273.length co48)) (fun _ hk=>⟨hk.1.1.1.2,⟨hk.1.2,hk.1.1.2⟩⟩)))⟩;have n1_:zqd (Kd.R k38 38 w50 w.heap.size (fun _=>True) (.slice Ao41 x10_3.length co41) x10_3):=⟨(by rw [hw];exact(by(with_reducible repeat(first|apply Kd.zq4|apply Kd.zq5|apply Kd.zq7));exact Kd.zja (Kd.R_far (p:=⟨gb272,1,none⟩) (Kd.zki HO_10.out BK272.out (by decide)) (fun _ hk=>hk.2) (.slice Ao48 t273.length co48)) (fun _ hk=>trivial)))⟩;have n2_:zqd (Kd.R (Kd.int .u8) 5 w50 w.heap.size (fun k_=>some k_≠(.slice Ao48 t273.length co48:Value).ownBlock) (.slice Ao43 t268.length co43) t268):=⟨(by rw [hw];exact(by(with_reducible repeat(first|apply Kd.zq4|apply Kd.zq5|apply Kd.zq7));exact Kd.zja (Kd.R_far (p:=⟨gb272,1,none⟩) (Kd.zki HO271.out BK272.out (by decide)) (fun _ hk=>hk.2) (.slice Ao48 t273.length co48)) (fun _ hk=>hk.1.2)))⟩;have n3_:zqd (Kd.R (Kd.int .u8) 5 w50 w.heap.size (fun k_=>some k_≠(.slice Ao43 t268.length co43:Value).ownBlock) (.slice Ao48 t273.length co48) t273):=⟨(by rw [hw];exact(by(with_reducible repeat(first|apply Kd.zq4|apply Kd.zq5|apply Kd.zq7));exact Kd.zja (Kd.R_far (p:=⟨gb272,1,none⟩) (Kd.zki HO276.out BK272.out (by decide)) (fun _ hk=>hk.2) (.slice Ao48 t273.length co48)) (fun _ hk=>hk.1.2)))⟩;have n4_:zqd (w50.heap[gb247]? = some (.cells #[.string ((zqo l0 a1).f0),.slice A246_1 ((zqo l0 a1).f1).length c246_1,.slice A246_2 ((zqo l0 a1).f2).length c246_2,.slice A246_3 ((zqo l0 a1).f3).length c246_3] 61 (0,0))):=⟨(by rw [hw];exact(by(with_reducible repeat(first|refine zqg ?_ _|refine zqj ?_|refine zqh ?_ _));refine zq1 ?_ NB247_272.out _;(with_reducible repeat(first|refine zqg ?_ _|refine zqj ?_|refine zqh ?_ _));exact BK247.out))⟩;have n5_:zqd (w50.heap[gb272]? = some (.cells #[.slice Ao43 t268.length co43,.slice Ao48 t273.length co48] 32 (0,0))):=⟨(by rw [hw];exact(by(with_reducible repeat(first|refine zqg ?_ _|refine zqj ?_|refine zqh ?_ _));refine zqu (cs:=#[.slice Ao43 t268.length co43,.slice none 0 0]) ?_ 1 _ rfl;(with_reducible repeat(first|refine zqg ?_ _|refine zqj ?_|refine zqh ?_ _));exact BK272.out))⟩;have n6_:zqd (Below w.heap.size w w50):=⟨(by rw [hw];exact(by repeat(first|(with_reducible first|exact HB.out|apply zqb|apply zqa|apply zqc|refine zqi ?_ GE247.out|refine zqi ?_ GE272.out)|exact HB.out)))⟩;clear hw HO_8 HO_10 HO271 HO276 BK247 BK272 HB;have HO_8:=n0_;have HO_10:=n1_;have HO271:=n2_;have HO276:=n3_;have BK247:=n4_;have BK272:=n5_;have HB:=n6_;clear n0_ n1_ n2_ n3_ n4_ n5_ n6_;have hcz51_0:w50.cell? ⟨gb272,0,none⟩=some (.slice Ao43 t268.length co43):=(zqf BK272.out 0).trans rfl;have hcz51_1:w50.cell? ⟨gb272,1,none⟩=some (.slice Ao48 t273.length co48):=(zqf BK272.out 1).trans rfl;have hfz51_0:=zqe BK272.out 0;have hfz51_1:=zqe BK272.out 1)|((with_reducible refine zkj (b:=.append) (xs:=#[.tmp 86,.tmp 88]) rfl ?_);at_builtin;refine Kd.S_append k32 (w0:=w) w.heap.size rfl (.tmp 86) (.tmp 88) 24 32 (.agg #[(.slice none 0 0),(.slice none 0 0)]) 48 rfl Tryd.underlying24 info32 rfl (by decide) (by omega) u8 x8_1 (⟨t268,t273⟩:S32) [.slice Ao43 t268.length co43,.slice Ao48 t273.length co48] (fun k_=>k_≠gb272) (fun k_=>some k_=(.slice Ao43 t268.length co43:Value).ownBlock∨some k_=(.slice Ao48 t273.length co48:Value).ownBlock) rfl rfl ?aP (fun k_ hk_=>hk_.elim (fun h_=>((Kd.zja (ok':=fun k_=>((fun k_=>k_≠gb272)) k_∧some k_≠(u8:Value).ownBlock) (Kd.zki (Kd.R_apart' (HO271.out) (Kd.S_typed HO_8.out) (by decide)) BK272.out (by decide)) (fun k_ hk=>⟨hk.2,hk.1.2⟩))).1 k_ h_.symm) (fun h_=>((Kd.zja (ok':=fun k_=>((fun k_=>k_≠gb272)) k_∧some k_≠(u8:Value).ownBlock) (Kd.zki (Kd.R_apart' (HO276.out) (Kd.S_typed HO_8.out) (by decide)) BK272.out (by decide)) (fun k_ hk=>⟨hk.2,hk.1.2⟩))).1 k_ h_.symm)) ?aF ?aO ?aB ?aS ?aL ?_;(case aP=>exact k32_mkM _ _ _ (⟨t268,t273⟩:S32) (Kd.zja (Kd.R_tight rfl (Kd.zja (ok':=fun k_=>((fun k_=>k_≠gb272)) k_∧some k_≠(u8:Value).ownBlock) (Kd.zki (Kd.R_apart' (HO271.out) (Kd.S_typed HO_8.out) (by decide)) BK272.out (by decide)) (fun k_ hk=>⟨hk.2,hk.1.2⟩))) (fun _ h_=>Or.inl h_)) (Kd.zja (Kd.R_tight rfl (Kd.zja (ok':=fun k_=>((fun k_=>k_≠gb272)) k_∧some k_≠(u8:Value).ownBlock) (Kd.zki (Kd.R_apart' (HO276.out) (Kd.S_typed HO_8.out) (by decide)) BK272.out (by decide)) (fun k_ hk=>⟨hk.2,hk.1.2⟩))) (fun _ h_=>Or.inr (h_))));(case aB=>exact(by repeat(first|(with_reducible first|exact HB.out|apply zqb|apply zqa|apply zqc|refine zqi ?_ GE247.out|refine zqi ?_ GE272.out)|exact HB.out)));(case aF=>exact(fun k_ hk=>Kd.freshB (g:=gb272) (o:=.cells #[.slice Ao43 t268.length co43,.slice Ao48 t273.length co48] 32 (0,0)) (by(with_reducible repeat(first|refine zqg ?_ _|refine zqj ?_|refine zqh ?_ _));exact BK272.out) k_ hk));(case aO=>exact(by(with_reducible repeat(first|apply Kd.zxj|apply Kd.zxi|apply Kd.zxx));exact Kd.S_mono HO_8.out (fun k_ hk=>⟨hk.2.2,fun e_=>e_.elim (fun h_=>hk.1 h_) (fun h_=>hk.2.1 h_)⟩)));(case aS=>exact(zqk (by repeat(first|(with_reducible first|exact HB.out|apply zqb|apply zqa|apply zqc|refine zqi ?_ GE247.out|refine zqi ?_ GE272.out)|exact HB.out))));(case aL=>have:=LMc40.out;omega);intro v278 w52 ho hb hg hat;rw [← Ny277.out] at ho;have n0_:=zqd.mk (Kd.R_over' (by(with_reducible repeat(first|apply Kd.zq4|apply Kd.zq5|apply Kd.zq7));exact HO_10.out) (Kd.S_typed (by(with_reducible repeat(first|apply Kd.zxj|apply Kd.zxi|apply Kd.zxx));exact HO_8.out)) (by decide) hg);have n1_:=zqd.mk (blk_grown (g:=gb247) (o:=.cells #[.string ((zqo l0 a1).f0),.slice A246_1 ((zqo l0 a1).f1).length c246_1,.slice A246_2 ((zqo l0 a1).f2).length c246_2,.slice A246_3 ((zqo l0 a1).f3).length c246_3] 61 (0,0)) (by(with_reducible repeat(first|refine zqg ?_ _|refine zqj ?_|refine zqh ?_ _));exact BK247.out) hg (Kd.S_ne HO_8.out BK247.out (by decide)));have n2_:=zqd.mk (blk_grown (g:=gb272) (o:=.cells #[.slice Ao43 t268.length co43,.slice Ao48 t273.length co48] 32 (0,0)) (by(with_reducible repeat(first|refine zqg ?_ _|refine zqj ?_|refine zqh ?_ _));exact BK272.out) hg (Kd.S_away HO_8.out (fun _ hk=>hk.2.2)));have n3_:=zqd.mk (hb);have n4_:=zqd.mk (ho);clear HO_10 BK247 BK272 HB HO_8 HO271 HO276;have HO_10:=n0_;have BK247:=n1_;have BK272:=n2_;have HB:=n3_;have HO279:=n4_;clear n0_ n1_ n2_ n3_ n4_ ho hb hg hat))
             go_roundg k3
             case measure=>have:=HK1.out;have:=HJ10.out;have:=HK3.out;omega
             case rel=>exact⟨(y277),(wrap64 (x9_1+1)),(by first|rfl|(simp;done)|(simp [*];done)|(generalize ByteArray.toList _=q_;cases q_ <;> rfl)),H',⟨by have:=HK1.out;have:=HJ10.out;have:=HK3.out;omega⟩,⟨by(with_reducible repeat(first|apply Kd.zxj|apply Kd.zxi|apply Kd.zxx));exact Kd.S_mono HO279.out (fun _ hk=>trivial)⟩,⟨by(with_reducible repeat(first|refine zqg ?_ _|refine zqj ?_|refine zqh ?_ _));exact BK247.out⟩,⟨by repeat(first|(with_reducible first|exact HB.out|apply zqb|apply zqa|apply zqc|refine zqi ?_ GE247.out|refine zqi ?_ GE272.out)|exact HB.out)⟩⟩
            ·rw [if_neg c40] at H
             exact absurd H (by simp)
           ·rw [if_neg c38] at H
            have c38b0:(x9_1 == 0)=false:=beq_eq_false_iff_ne.mpr c38
            have c38b1:(x9_1 != 0)=true:=bne_iff_ne.mpr c38
            by_cases c53:x8_1.length<2932031007402
            ·rw [if_pos c53] at H
             have LMc53:=zqd.mk c53
             clear c53
             obtain ⟨y280,hy280⟩:∃ y_:List (S32),y_=(x8_1 ++ [(⟨t268,([]:List Int)⟩:S32)]):=⟨_,rfl⟩
             replace H:(zjg.l0 k3 a1 l2 y280 (wrap64 (x9_1+1)) ((zqo l0 a1).f0) ((zqo l0 a1).f1) ((zqo l0 a1).f2) ((zqo l0 a1).f3))=some r:=by first|(rw [hy280];with_reducible exact H)|(have H2_:=(Option.bind_some _ _).symm.trans H;rw [hy280];with_reducible exact H2_)|(have H2_:=(Option.bind_some _ _).symm.trans H;with_reducible exact H2_)|with_reducible exact H|(rw [hy280];exact H)|exact H
             have Ny280:=zqd.mk hy280
             clear hy280
             have H':=zqd.mk H
             clear H
             obtain ⟨Ao54,co54,eo54⟩:=Kd.zx7 HO_10.out
             subst eo54
             go_wp2_with (first|((with_reducible refine zqv (f:=63) rfl ?_);refine zq8 (some 73) rfl rfl Tryd.func63 (by kernel_rfl) rfl #[.slice Ao54 x10_3.length co54] rfl (by(try simp only [List.map_toArray,List.map_cons,List.map_nil]);first|done|rfl|(simp only [List.length_drop,List.length_take];rfl)) ?_;(with_reducible refine(zjc.calls k3 _ _ x10_3 t268 t269 _ ?side1 ?side2 A37.out).mono ?_);(case side1=>repeat(first|exact(Kd.zxu HO_10.out).2.2|(with_reducible refine Kd.zqw ?_ _)|(with_reducible refine Kd.zqy ?_ _)|(with_reducible refine Kd.zq2 ?_)));(case side2=>exact(Kd.zxu HO_10.out).2.1);rintro e w55 ⟨v270,rfl,ho0,hb⟩;refine⟨_,rfl,?_⟩;have n0_:=zqd.mk (Kd.S_elder' (by(with_reducible repeat(first|apply Kd.zxj|apply Kd.zxi|apply Kd.zxx));exact HO_8.out) (Kd.R_base ho0) hb);have n1_:=zqd.mk (Kd.zxy (by(with_reducible repeat(first|apply Kd.zq4|apply Kd.zq5|apply Kd.zq7));exact HO_10.out) hb);have n2_:=zqd.mk (Kd.zko ho0 (zqk (by repeat(first|(with_reducible first|exact HB.out|apply zqb|apply zqa|apply zqc|refine zqi ?_ GE247.out)|exact HB.out))));have n3_:=zqd.mk (zqr (g:=gb247) (o:=.cells #[.string ((zqo l0 a1).f0),.slice A246_1 ((zqo l0 a1).f1).length c246_1,.slice A246_2 ((zqo l0 a1).f2).length c246_2,.slice A246_3 ((zqo l0 a1).f3).length c246_3] 61 (0,0)) (by(with_reducible repeat(first|refine zqg ?_ _|refine zqj ?_|refine zqh ?_ _));exact BK247.out) hb);have n4_:=zqd.mk (zqn (by repeat(first|(with_reducible first|exact HB.out|apply zqb|apply zqa|apply zqc|refine zqi ?_ GE247.out)|exact HB.out)) hb);clear HO_8 HO_10 BK247 HB;have HO_8:=n0_;have HO_10:=n1_;have HO271:=n2_;have BK247:=n3_;have HB:=n4_;clear n0_ n1_ n2_ n3_ n4_;(try clear hb);(try clear hb2);(try clear hk);(try clear hi);(try clear ho0);obtain ⟨Ao56,co56,eo56⟩:=Kd.zx7 HO271.out;subst eo56)|((with_reducible refine zqx (N:=17) rfl ?_);refine zqt ?hg (N:=17) ?hd (cs:=#[.slice none 0 0,.slice none 0 0]) (t:=32) ?hr ?_;(case hd=>rfl);(case hg=>rfl);(case hr=>first|(go_simp;done)|(go_simp;rfl));intro gb272 hg w57 hbox hb;have n0_:=zqd.mk (Kd.S_below (Kd.S_elderB (by(with_reducible repeat(first|apply Kd.zxj|apply Kd.zxi|apply Kd.zxx));exact HO_8.out) gb272 (Nat.le_of_eq hg.symm)) hb);have n1_:=zqd.mk (Kd.zxy (by(with_reducible repeat(first|apply Kd.zq4|apply Kd.zq5|apply Kd.zq7));exact HO_10.out) hb);have n2_:=zqd.mk (Kd.zxy (by(with_reducible repeat(first|apply Kd.zq4|apply Kd.zq5|apply Kd.zq7));exact HO271.out) hb);have n3_:=zqd.mk (zqr (g:=gb247) (o:=.cells #[.string ((zqo l0 a1).f0),.slice A246_1 ((zqo l0 a1).f1).length c246_1,.slice A246_2 ((zqo l0 a1).f2).length c246_2,.slice A246_3 ((zqo l0 a1).f3).length c246_3] 61 (0,0)) (by(with_reducible repeat(first|refine zqg ?_ _|refine zqj ?_|refine zqh ?_ _));exact BK247.out) hb);have n4_:=zqd.mk (zqn (by repeat(first|(with_reducible first|exact HB.out|apply zqb|apply zqa|apply zqc|refine zqi ?_ GE247.out)|exact HB.out)) hb);have n5_:=zqd.mk (hbox);have n6_:=zqd.mk ((by rw [hg];exact(zqk (by repeat(first|(with_reducible first|exact HB.out|apply zqb|apply zqa|apply zqc|refine zqi ?_ GE247.out)|exact HB.out))):w.heap.size≤gb272));have n7_:=zqd.mk ((by rw [hg];exact(zqk (by repeat(first|(with_reducible first|exact HB.out|apply zqb|apply zqa|apply zqc|refine zqi ?_ GE247.out)|exact HB.out))):w.heap.size≤gb272));have n8_:=zqd.mk ((by rw [hg];exact Nat.ne_of_lt (zxh (g:=gb247) (o:=.cells #[.string ((zqo l0 a1).f0),.slice A246_1 ((zqo l0 a1).f1).length c246_1,.slice A246_2 ((zqo l0 a1).f2).length c246_2,.slice A246_3 ((zqo l0 a1).f3).length c246_3] 61 (0,0)) (by(with_reducible repeat(first|refine zqg ?_ _|refine zqj ?_|refine zqh ?_ _));exact BK247.out)):gb247≠gb272));have n9_:=zqd.mk ((by rw [hg];exact Nat.ne_of_gt (zxh (g:=gb247) (o:=.cells #[.string ((zqo l0 a1).f0),.slice A246_1 ((zqo l0 a1).f1).length c246_1,.slice A246_2 ((zqo l0 a1).f2).length c246_2,.slice A246_3 ((zqo l0 a1).f3).length c246_3] 61 (0,0)) (by(with_reducible repeat(first|refine zqg ?_ _|refine zqj ?_|refine zqh ?_ _));exact BK247.out)):gb272≠gb247));clear HO_8 HO_10 HO271 BK247 HB;have HO_8:=n0_;have HO_10:=n1_;have HO271:=n2_;have BK247:=n3_;have HB:=n4_;have BK272:=n5_;have GW272:=n6_;have GE272:=n7_;have NB247_272:=n8_;have NB272_247:=n9_;clear n0_ n1_ n2_ n3_ n4_ n5_ n6_ n7_ n8_ n9_ hb hbox hg;have hnb58:=NB272_247.out;have hnc58:=NB247_272.out;have hcz59_0:w57.cell? ⟨gb272,0,none⟩=some (.slice none 0 0):=(zqf BK272.out 0).trans rfl;have hcz59_1:w57.cell? ⟨gb272,1,none⟩=some (.slice none 0 0):=(zqf BK272.out 1).trans rfl;have hfz59_0:=zqe BK272.out 0;have hfz59_1:=zqe BK272.out 1)|((with_reducible refine gate_store (t:=32) (p:=17) rfl ?_);refine store_event (t:=32) (p:=17) (v:=?vo_w60) (w1:=((w57.setCell ⟨gb272,0,none⟩ (.slice Ao56 t268.length co56)).setCell ⟨gb272,1,none⟩ (.slice none 0 0))) ?hg ?ho ?hn ?hr ?_;(case ho=>rfl);(case hg=>rfl);(case hn=>rfl);(case hr=>first|(go_simp;done)|(go_simp;rfl));intro w60 hw;have n0_:zqd (Kd.S k32 32 w60 w.heap.size (fun k_=>some k_≠(.slice Ao56 t268.length co56:Value).ownBlock∧k_≠gb272) u8 x8_1):=⟨(by rw [hw];exact(by(with_reducible repeat(first|apply Kd.zxj|apply Kd.zxi|apply Kd.zxx));exact Kd.S_mono (Kd.S_far (p:=⟨gb272,1,none⟩) (Kd.S_far (p:=⟨gb272,0,none⟩) (Kd.S_mono HO_8.out (fun k_ hk=>(⟨hk,hk.2⟩:_∧k_≠gb272))) (fun _ hk=>hk.2) (.slice Ao56 t268.length co56)) (fun _ hk=>hk.2) (.slice none 0 0)) (fun _ hk=>⟨hk.1.1.2,hk.1.2⟩)))⟩;have n1_:zqd (Kd.R k38 38 w60 w.heap.size (fun _=>True) (.slice Ao54 x10_3.length co54) x10_3):=⟨(by rw [hw];exact(by(with_reducible repeat(first|apply Kd.zq4|apply Kd.zq5|apply Kd.zq7));exact Kd.zja (Kd.R_far (p:=⟨gb272,1,none⟩) (Kd.R_far (p:=⟨gb272,0,none⟩) (Kd.zki HO_10.out BK272.out (by decide)) (fun _ hk=>hk.2) (.slice Ao56 t268.length co56)) (fun _ hk=>hk.2) (.slice none 0 0)) (fun _ hk=>trivial)))⟩;have n2_:zqd (Kd.R (Kd.int .u8) 5 w60 w.heap.size (fun _=>True) (.slice Ao56 t268.length co56) t268):=⟨(by rw [hw];exact(by(with_reducible repeat(first|apply Kd.zq4|apply Kd.zq5|apply Kd.zq7));exact Kd.zja (Kd.R_far (p:=⟨gb272,1,none⟩) (Kd.R_far (p:=⟨gb272,0,none⟩) (Kd.zki HO271.out BK272.out (by decide)) (fun _ hk=>hk.2) (.slice Ao56 t268.length co56)) (fun _ hk=>hk.2) (.slice none 0 0)) (fun _ hk=>trivial)))⟩;have n3_:zqd (w60.heap[gb247]? = some (.cells #[.string ((zqo l0 a1).f0),.slice A246_1 ((zqo l0 a1).f1).length c246_1,.slice A246_2 ((zqo l0 a1).f2).length c246_2,.slice A246_3 ((zqo l0 a1).f3).length c246_3] 61 (0,0))):=⟨(by rw [hw];exact(by(with_reducible repeat(first|refine zqg ?_ _|refine zqj ?_|refine zqh ?_ _));refine zq1 ?_ NB247_272.out _;(with_reducible repeat(first|refine zqg ?_ _|refine zqj ?_|refine zqh ?_ _));refine zq1 ?_ NB247_272.out _;(with_reducible repeat(first|refine zqg ?_ _|refine zqj ?_|refine zqh ?_ _));exact BK247.out))⟩;have n4_:zqd (w60.heap[gb272]? = some (.cells #[.slice Ao56 t268.length co56,.slice none 0 0] 32 (0,0))):=⟨(by rw [hw];exact(by(with_reducible repeat(first|refine zqg ?_ _|refine zqj ?_|refine zqh ?_ _));refine zqu (cs:=#[.slice Ao56 t268.length co56,.slice none 0 0]) ?_ 1 _ rfl;(with_reducible repeat(first|refine zqg ?_ _|refine zqj ?_|refine zqh ?_ _));refine zqu (cs:=#[.slice none 0 0,.slice none 0 0]) ?_ 0 _ rfl;(with_reducible repeat(first|refine zqg ?_ _|refine zqj ?_|refine zqh ?_ _));exact BK272.out))⟩;have n5_:zqd (Below w.heap.size w w60):=⟨(by rw [hw];exact(by repeat(first|(with_reducible first|exact HB.out|apply zqb|apply zqa|apply zqc|refine zqi ?_ GE247.out|refine zqi ?_ GE272.out)|exact HB.out)))⟩;clear hw HO_8 HO_10 HO271 BK247 BK272 HB;have HO_8:=n0_;have HO_10:=n1_;have HO271:=n2_;have BK247:=n3_;have BK272:=n4_;have HB:=n5_;clear n0_ n1_ n2_ n3_ n4_ n5_;have hcz61_0:w60.cell? ⟨gb272,0,none⟩=some (.slice Ao56 t268.length co56):=(zqf BK272.out 0).trans rfl;have hcz61_1:w60.cell? ⟨gb272,1,none⟩=some (.slice none 0 0):=(zqf BK272.out 1).trans rfl;have hfz61_0:=zqe BK272.out 0;have hfz61_1:=zqe BK272.out 1)|((with_reducible refine zkj (b:=.append) (xs:=#[.tmp 86,.tmp 88]) rfl ?_);at_builtin;refine Kd.S_append k32 (w0:=w) w.heap.size rfl (.tmp 86) (.tmp 88) 24 32 (.agg #[(.slice none 0 0),(.slice none 0 0)]) 48 rfl Tryd.underlying24 info32 rfl (by decide) (by omega) u8 x8_1 (⟨t268,([]:List Int)⟩:S32) [.slice Ao56 t268.length co56,.slice none 0 0] (fun k_=>k_≠gb272) (fun k_=>some k_=(.slice Ao56 t268.length co56:Value).ownBlock) rfl rfl ?aP (fun k_ hk_=>((Kd.zja (ok':=fun k_=>((fun k_=>k_≠gb272)) k_∧some k_≠(u8:Value).ownBlock) (Kd.zki (Kd.R_apart' (HO271.out) (Kd.S_typed HO_8.out) (by decide)) BK272.out (by decide)) (fun k_ hk=>⟨hk.2,hk.1.2⟩))).1 k_ hk_.symm) ?aF ?aO ?aB ?aS ?aL ?_;(case aP=>exact k32_mkM _ _ _ (⟨t268,([]:List Int)⟩:S32) (Kd.zja (Kd.R_tight rfl (Kd.zja (ok':=fun k_=>((fun k_=>k_≠gb272)) k_∧some k_≠(u8:Value).ownBlock) (Kd.zki (Kd.R_apart' (HO271.out) (Kd.S_typed HO_8.out) (by decide)) BK272.out (by decide)) (fun k_ hk=>⟨hk.2,hk.1.2⟩))) (fun _ h_=>h_)) (Kd.R_nil _ _ _ _ _));(case aB=>exact(by repeat(first|(with_reducible first|exact HB.out|apply zqb|apply zqa|apply zqc|refine zqi ?_ GE247.out|refine zqi ?_ GE272.out)|exact HB.out)));(case aF=>exact(fun k_ hk=>Kd.freshB (g:=gb272) (o:=.cells #[.slice Ao56 t268.length co56,.slice none 0 0] 32 (0,0)) (by(with_reducible repeat(first|refine zqg ?_ _|refine zqj ?_|refine zqh ?_ _));exact BK272.out) k_ hk));(case aO=>exact(by(with_reducible repeat(first|apply Kd.zxj|apply Kd.zxi|apply Kd.zxx));exact Kd.S_mono HO_8.out (fun k_ hk=>⟨hk.2,fun e_=>hk.1 e_⟩)));(case aS=>exact(zqk (by repeat(first|(with_reducible first|exact HB.out|apply zqb|apply zqa|apply zqc|refine zqi ?_ GE247.out|refine zqi ?_ GE272.out)|exact HB.out))));(case aL=>have:=LMc53.out;omega);intro v281 w62 ho hb hg hat;rw [← Ny280.out] at ho;have n0_:=zqd.mk (Kd.R_over' (by(with_reducible repeat(first|apply Kd.zq4|apply Kd.zq5|apply Kd.zq7));exact HO_10.out) (Kd.S_typed (by(with_reducible repeat(first|apply Kd.zxj|apply Kd.zxi|apply Kd.zxx));exact HO_8.out)) (by decide) hg);have n1_:=zqd.mk (blk_grown (g:=gb247) (o:=.cells #[.string ((zqo l0 a1).f0),.slice A246_1 ((zqo l0 a1).f1).length c246_1,.slice A246_2 ((zqo l0 a1).f2).length c246_2,.slice A246_3 ((zqo l0 a1).f3).length c246_3] 61 (0,0)) (by(with_reducible repeat(first|refine zqg ?_ _|refine zqj ?_|refine zqh ?_ _));exact BK247.out) hg (Kd.S_ne HO_8.out BK247.out (by decide)));have n2_:=zqd.mk (blk_grown (g:=gb272) (o:=.cells #[.slice Ao56 t268.length co56,.slice none 0 0] 32 (0,0)) (by(with_reducible repeat(first|refine zqg ?_ _|refine zqj ?_|refine zqh ?_ _));exact BK272.out) hg (Kd.S_away HO_8.out (fun _ hk=>hk.2)));have n3_:=zqd.mk (hb);have n4_:=zqd.mk (ho);clear HO_10 BK247 BK272 HB HO_8 HO271;have HO_10:=n0_;have BK247:=n1_;have BK272:=n2_;have HB:=n3_;have HO282:=n4_;clear n0_ n1_ n2_ n3_ n4_ ho hb hg hat))
             go_roundg k3
             case measure=>have:=HK1.out;have:=HJ10.out;have:=HK3.out;omega
             case rel=>exact⟨(y280),(wrap64 (x9_1+1)),(by first|rfl|(simp;done)|(simp [*];done)|(generalize ByteArray.toList _=q_;cases q_ <;> rfl)),H',⟨by have:=HK1.out;have:=HJ10.out;have:=HK3.out;omega⟩,⟨by(with_reducible repeat(first|apply Kd.zxj|apply Kd.zxi|apply Kd.zxx));exact Kd.S_mono HO282.out (fun _ hk=>trivial)⟩,⟨by(with_reducible repeat(first|refine zqg ?_ _|refine zqj ?_|refine zqh ?_ _));exact BK247.out⟩,⟨by repeat(first|(with_reducible first|exact HB.out|apply zqb|apply zqa|apply zqc|refine zqi ?_ GE247.out|refine zqi ?_ GE272.out)|exact HB.out)⟩⟩
            ·rw [if_neg c53] at H
             exact absurd H (by simp)
     ·rw [if_neg c8] at H
      have c8b0:decide (x9_1≤(((zqo l0 a1).f3).length:Int))=false:=decide_eq_false c8
      clear c8
      obtain rfl:=Option.some.inj H
      have hcz63_0:wr.cell? ⟨gb247,0,none⟩=some (.string ((zqo l0 a1).f0)):=(zqf BK247.out 0).trans rfl
      have hcz63_1:wr.cell? ⟨gb247,1,none⟩=some (.slice A246_1 ((zqo l0 a1).f1).length c246_1):=(zqf BK247.out 1).trans rfl
      have hcz63_2:wr.cell? ⟨gb247,2,none⟩=some (.slice A246_2 ((zqo l0 a1).f2).length c246_2):=(zqf BK247.out 2).trans rfl
      have hcz63_3:wr.cell? ⟨gb247,3,none⟩=some (.slice A246_3 ((zqo l0 a1).f3).length c246_3):=(zqf BK247.out 3).trans rfl
      have hfz63_0:=zqe BK247.out 0
      have hfz63_1:=zqe BK247.out 1
      have hfz63_2:=zqe BK247.out 2
      have hfz63_3:=zqe BK247.out 3
      go_wp2
      go_ret
      exact⟨_,by first|rfl|(simp [zqm,zql] <;> rfl)|(simp [*,zqm,zql] <;> rfl),by(with_reducible repeat(first|apply Kd.zxj|apply Kd.zxi|apply Kd.zxx));exact HO_8.out,by repeat(first|(with_reducible first|exact HB.out|apply zqb|apply zqa|apply zqc|refine zqi ?_ GE247.out)|exact HB.out)⟩
  ·rw [if_neg c5] at H
   exact absurd H (by simp)
 ·rw [if_neg c4] at H
  exact absurd H (by simp)

end Go.Proofs.YthhejedfjgikdaaDoor.PRowEntries
