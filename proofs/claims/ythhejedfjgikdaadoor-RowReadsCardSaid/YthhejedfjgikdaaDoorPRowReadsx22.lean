-- Written by wip/pp of this repo (over the kit's print, with additions of this session); Lean checks every line.
import Derived.Test.YthhejedfjgikdaaDoorPRowReadsx20
import Derived.Test.YthhejedfjgikdaaDoorPRowReadsx21
namespace Go.Proofs.YthhejedfjgikdaaDoor.PRowReads
open Go.RowKit Go.Proofs.YthhejedfjgikdaaDoorW.PrintWords Go.Proofs.YthhejedfjgikdaaDoorW.PrintLast Go.Proofs.YthhejedfjgikdaaDoorW.PrintMore
attribute [local go_sem] zjo zjm zjw zjv zja zq9 zjn zjl   -- for this text's walks alone
set_option linter.unusedVariables false
set_option linter.unusedSimpArgs false

/-! ### zp: function 33 -/
mutual
def zp.l0:Nat→Int→List (S38)→List (S32)→Int→ByteArray→List (S90)→List Int→List (S96)→Option ((List (S32)))
 | 0,_,_,_,_,_,_,_,_=>none
 | k+1,x1,x2,x8,x9,x308000,x308001,x308002,x308003=>if x9≤(x308003.length:Int) then((zjh.f x1).bind fun bt308=>((zjh.f x9).bind fun bt311=>((some (([(⟨bt308.1,bt308.2.1,bt308.2.2⟩:S38),(⟨bt311.1,bt311.2.1,bt311.2.2⟩:S38)]:List (S38)):List (S38))).bind fun y314=>(if x9 > 0 then(if 0≤(wrap64 (x9 - 1)) then(if(wrap64 (x9 - 1))<(x308003.length:Int) then(zp.l1 k x1 x2 x8 x9 y314 ((zqi x308003 (wrap64 (x9 - 1))).f1) (((zqi x308003 (wrap64 (x9 - 1))).f1).length:Int) 0 x308000 x308001 x308002 x308003) else (none)) else (none)) else (zp.j2 k x1 x2 x8 x9 y314 x308000 x308001 x308002 x308003))))) else (some x8)
def zp.j2:Nat→Int→List (S38)→List (S32)→Int→List (S38)→ByteArray→List (S90)→List Int→List (S96)→Option ((List (S32)))
 | 0,_,_,_,_,_,_,_,_,_=>none
 | k+1,x1,x2,x8,x9,x10,x308000,x308001,x308002,x308003=>zp.l2 k x1 x2 x8 x9 x10 x308002 (x308002.length:Int) 0 x308000 x308001 x308002 x308003
def zp.l2:Nat→Int→List (S38)→List (S32)→Int→List (S38)→List Int→Int→Int→ByteArray→List (S90)→List Int→List (S96)→Option ((List (S32)))
 | 0,_,_,_,_,_,_,_,_,_,_,_,_=>none
 | k+1,x1,x2,x8,x9,x10,x57,x58,x59,x308000,x308001,x308002,x308003=>if x59<x58 then(if 0≤x59 then(if x59<(x57.length:Int) then(if 0≤(rd x57 x59) then(if(rd x57 x59)<(x2.length:Int) then(if x10.length<4398046511104 then(zp.l2 k x1 x2 x8 x9 (x10 ++ [(⟨(qf x2 (rd x57 x59)).f0,(qf x2 (rd x57 x59)).f1,(qf x2 (rd x57 x59)).f2⟩:S38)]) x57 x58 (wrap64 (x59+1)) x308000 x308001 x308002 x308003) else (none)) else (none)) else (none)) else (none)) else (none)) else ((zx.f k x10).bind fun bt328=>(if x9=0 then((zx.f k x2).bind fun bt333=>(if x8.length<2932031007402 then(zp.l0 k x1 x2 (x8 ++ [(⟨bt328.1,bt333.1⟩:S32)]) (wrap64 (x9+1)) x308000 x308001 x308002 x308003) else (none))) else (if x8.length<2932031007402 then(zp.l0 k x1 x2 (x8 ++ [(⟨bt328.1,([]:List Int)⟩:S32)]) (wrap64 (x9+1)) x308000 x308001 x308002 x308003) else (none))))
def zp.l1:Nat→Int→List (S38)→List (S32)→Int→List (S38)→List Int→Int→Int→ByteArray→List (S90)→List Int→List (S96)→Option ((List (S32)))
 | 0,_,_,_,_,_,_,_,_,_,_,_,_=>none
 | k+1,x1,x2,x8,x9,x10,x42,x43,x44,x308000,x308001,x308002,x308003=>if x44<x43 then(if 0≤x44 then(if x44<(x42.length:Int) then(if 0≤(rd x42 x44) then(if(rd x42 x44)<(x2.length:Int) then(if x10.length<4398046511104 then(zp.l1 k x1 x2 x8 x9 (x10 ++ [(⟨(qf x2 (rd x42 x44)).f0,(qf x2 (rd x42 x44)).f1,(qf x2 (rd x42 x44)).f2⟩:S38)]) x42 x43 (wrap64 (x44+1)) x308000 x308001 x308002 x308003) else (none)) else (none)) else (none)) else (none)) else (none)) else (zp.j2 k x1 x2 x8 x9 x10 x308000 x308001 x308002 x308003)
end
def zp.f (k:Nat) (l0:List (S61)) (a1:Int) (l2:List (S38)):Option ((List (S32))):=if 0≤a1 then(if a1<(l0.length:Int) then(zp.l0 k a1 l2 ([]:List (S32)) 0 ((zt l0 a1).f0) ((zt l0 a1).f1) ((zt l0 a1).f2) ((zt l0 a1).f3)) else (none)) else (none)
theorem zp.mono_l:∀ k,(∀ y0 y1 y2 y3 y4 y5 y6 y7,LeO (zp.l0 k y0 y1 y2 y3 y4 y5 y6 y7) (zp.l0 (k+1) y0 y1 y2 y3 y4 y5 y6 y7))∧(∀ y0 y1 y2 y3 y4 y5 y6 y7 y8,LeO (zp.j2 k y0 y1 y2 y3 y4 y5 y6 y7 y8) (zp.j2 (k+1) y0 y1 y2 y3 y4 y5 y6 y7 y8))∧(∀ y0 y1 y2 y3 y4 y5 y6 y7 y8 y9 y10 y11,LeO (zp.l2 k y0 y1 y2 y3 y4 y5 y6 y7 y8 y9 y10 y11) (zp.l2 (k+1) y0 y1 y2 y3 y4 y5 y6 y7 y8 y9 y10 y11))∧(∀ y0 y1 y2 y3 y4 y5 y6 y7 y8 y9 y10 y11,LeO (zp.l1 k y0 y1 y2 y3 y4 y5 y6 y7 y8 y9 y10 y11) (zp.l1 (k+1) y0 y1 y2 y3 y4 y5 y6 y7 y8 y9 y10 y11))
 | 0=>⟨fun _ _ _ _ _ _ _ _ r h=>by simp [zp.l0] at h,fun _ _ _ _ _ _ _ _ _ r h=>by simp [zp.j2] at h,fun _ _ _ _ _ _ _ _ _ _ _ _ r h=>by simp [zp.l2] at h,fun _ _ _ _ _ _ _ _ _ _ _ _ r h=>by simp [zp.l1] at h⟩
 | k+1=>by
  obtain ⟨ih0,ih1,ih2,ih3⟩:=zp.mono_l k
  refine⟨?_,?_,?_,?_⟩
  ·intro y0 y1 y2 y3 y4 y5 y6 y7
   unfold zp.l0
   repeat' first
   | (with_reducible first|exact ih0 _ _ _ _ _ _ _ _|exact ih1 _ _ _ _ _ _ _ _ _|exact ih2 _ _ _ _ _ _ _ _ _ _ _ _|exact ih3 _ _ _ _ _ _ _ _ _ _ _ _|exact zx.mono _ _|exact LeO.refl _|exact LeO.none _|refine LeO.ite ?_ ?_|refine LeO.bind ?_ (fun _=>?_))
   | exact ih0 _ _ _ _ _ _ _ _
   | exact ih1 _ _ _ _ _ _ _ _ _
   | exact ih2 _ _ _ _ _ _ _ _ _ _ _ _
   | exact ih3 _ _ _ _ _ _ _ _ _ _ _ _
   | exact zx.mono _ _
   | exact LeO.none _
   | refine LeO.ite ?_ ?_
   | refine LeO.bind ?_ (fun _=>?_)
  ·intro y0 y1 y2 y3 y4 y5 y6 y7 y8
   unfold zp.j2
   repeat' first
   | (with_reducible first|exact ih0 _ _ _ _ _ _ _ _|exact ih1 _ _ _ _ _ _ _ _ _|exact ih2 _ _ _ _ _ _ _ _ _ _ _ _|exact ih3 _ _ _ _ _ _ _ _ _ _ _ _|exact zx.mono _ _|exact LeO.refl _|exact LeO.none _|refine LeO.ite ?_ ?_|refine LeO.bind ?_ (fun _=>?_))
   | exact ih0 _ _ _ _ _ _ _ _
   | exact ih1 _ _ _ _ _ _ _ _ _
   | exact ih2 _ _ _ _ _ _ _ _ _ _ _ _
   | exact ih3 _ _ _ _ _ _ _ _ _ _ _ _
   | exact zx.mono _ _
   | exact LeO.none _
   | refine LeO.ite ?_ ?_
   | refine LeO.bind ?_ (fun _=>?_)
  ·intro y0 y1 y2 y3 y4 y5 y6 y7 y8 y9 y10 y11
   unfold zp.l2
   repeat' first
   | (with_reducible first|exact ih0 _ _ _ _ _ _ _ _|exact ih1 _ _ _ _ _ _ _ _ _|exact ih2 _ _ _ _ _ _ _ _ _ _ _ _|exact ih3 _ _ _ _ _ _ _ _ _ _ _ _|exact zx.mono _ _|exact LeO.refl _|exact LeO.none _|refine LeO.ite ?_ ?_|refine LeO.bind ?_ (fun _=>?_))
   | exact ih0 _ _ _ _ _ _ _ _
   | exact ih1 _ _ _ _ _ _ _ _ _
   | exact ih2 _ _ _ _ _ _ _ _ _ _ _ _
   | exact ih3 _ _ _ _ _ _ _ _ _ _ _ _
   | exact zx.mono _ _
   | exact LeO.none _
   | refine LeO.ite ?_ ?_
   | refine LeO.bind ?_ (fun _=>?_)
  intro y0 y1 y2 y3 y4 y5 y6 y7 y8 y9 y10 y11
  unfold zp.l1
  repeat' first
  | (with_reducible first|exact ih0 _ _ _ _ _ _ _ _|exact ih1 _ _ _ _ _ _ _ _ _|exact ih2 _ _ _ _ _ _ _ _ _ _ _ _|exact ih3 _ _ _ _ _ _ _ _ _ _ _ _|exact zx.mono _ _|exact LeO.refl _|exact LeO.none _|refine LeO.ite ?_ ?_|refine LeO.bind ?_ (fun _=>?_))
  | exact ih0 _ _ _ _ _ _ _ _
  | exact ih1 _ _ _ _ _ _ _ _ _
  | exact ih2 _ _ _ _ _ _ _ _ _ _ _ _
  | exact ih3 _ _ _ _ _ _ _ _ _ _ _ _
  | exact zx.mono _ _
  | exact LeO.none _
  | refine LeO.ite ?_ ?_
  | refine LeO.bind ?_ (fun _=>?_)
theorem zp.mono:∀ a0 a1 a2 k,LeO (zp.f k a0 a1 a2) (zp.f (k+1) a0 a1 a2):=by
 intro a0 a1 a2 k
 obtain ⟨ih0,ih1,ih2,ih3⟩:=zp.mono_l k
 unfold zp.f
 repeat' first
   | (with_reducible first|exact ih0 _ _ _ _ _ _ _ _|exact ih1 _ _ _ _ _ _ _ _ _|exact ih2 _ _ _ _ _ _ _ _ _ _ _ _|exact ih3 _ _ _ _ _ _ _ _ _ _ _ _|exact zx.mono _ _|exact LeO.refl _|exact LeO.none _|refine LeO.ite ?_ ?_|refine LeO.bind ?_ (fun _=>?_))
   | exact ih0 _ _ _ _ _ _ _ _
   | exact ih1 _ _ _ _ _ _ _ _ _
   | exact ih2 _ _ _ _ _ _ _ _ _ _ _ _
   | exact ih3 _ _ _ _ _ _ _ _ _ _ _ _
   | exact zx.mono _ _
   | exact LeO.none _
   | refine LeO.ite ?_ ?_
   | refine LeO.bind ?_ (fun _=>?_)
set_option maxHeartbeats 8000000 in
set_option maxRecDepth 100000 in
theorem zp.calls (k:Nat) (A0:Option Addr) (c0:Nat) (l0:List (S61)) (a1:Int) (A2:Option Addr) (c2:Nat) (l2:List (S38)) (r:List (S32)) (w:World) (hr0:Kd.C k61 w A0 l0.length l0) (hc0:l0.length≤c0) (hr2:Kd.C k38 w A2 l2.length l2) (hc2:l2.length≤c2) (h:zp.f k l0 a1 l2=some r) :
  Calls Tryd.prog 33 #[.slice A0 l0.length c0,.int .i64 a1,.slice A2 l2.length c2] w fun e w' => ∃ v0_:Value,e = .returned (v0_)∧Kd.S k32 32 w' w.heap.size (fun _=>True) v0_ r∧Below w.heap.size w w':=by
 have hu61:=Tryd.underlying61
 have hu38:=Tryd.underlying38
 have hu32:=Tryd.underlying32
 have HR0:=zq.mk hr0
 have HC0:=zq.mk hc0
 clear hr0 hc0
 have HR2:=zq.mk hr2
 have HC2:=zq.mk hc2
 clear hr2 hc2
 have HB:=zq.mk (Below.refl w.heap.size w)
 have H:(if 0≤a1 then(if a1<(l0.length:Int) then(zp.l0 k a1 l2 ([]:List (S32)) 0 ((zt l0 a1).f0) ((zt l0 a1).f1) ((zt l0 a1).f2) ((zt l0 a1).f3)) else (none)) else (none))=some r:=h
 clear h
 by_cases c4:0≤a1
 ·rw [if_pos c4] at H
  have c4b0:=decide_eq_true c4
  clear c4
  by_cases c5:a1<(l0.length:Int)
  ·rw [if_pos c5] at H
   have c5b0:=decide_eq_true c5
   clear c5
   have H':=zq.mk H
   clear H
   have p306:0≤(a1:Int):=dt
   have q306:a1<(l0.length:Int):=dt
   obtain ⟨ad306,A306_1,c306_1,A306_2,c306_2,A306_3,c306_3,e306,hx306_0,hx306_1,hx306_2,hx306_3,hl306_1,hi306_1,hl306_2,hi306_2,hl306_3,hi306_3⟩:=zkj HR0.out a1 p306 q306
   cases e306
   have HR306_1:=zq.mk hi306_1
   have HC306_1:=zq.mk hl306_1
   clear hi306_1 hl306_1
   have HR306_2:=zq.mk hi306_2
   have HC306_2:=zq.mk hl306_2
   clear hi306_2 hl306_2
   have HR306_3:=zq.mk hi306_3
   have HC306_3:=zq.mk hl306_3
   clear hi306_3 hl306_3
   replace p306:=eq_true p306
   replace q306:=eq_true q306
   go_enter Tryd.func33,Tryd.ntmps33
   go_wp2_with (first|((with_reducible refine qr (N:=7) rfl ?_);refine qm ?hg (N:=7) ?hd (cs:=#[.string (⟨#[]⟩:ByteArray),.slice none 0 0,.slice none 0 0,.slice none 0 0]) (t:=61) ?hr ?_;(case hd=>rfl);(case hg=>rfl);(case hr=>first|(go_simp;done)|(go_simp;rfl));intro gb307 hg w6 hbox hb;have BK307:=zq.mk (hbox);have GW307:=zq.mk ((by rw [hg];exact(zw bw):w.heap.size≤gb307));have GE307:=zq.mk ((by rw [hg];exact(zw bw):w.heap.size≤gb307));replace HB:=zq.mk (zn bw hb);clear hb hbox hg;obtain ⟨hcz7_0,hcz7_1,hcz7_2,hcz7_3,hfz7_0,hfz7_1,hfz7_2,hfz7_3⟩:=zqv BK307.out))
   go_loopg [8,9] k (fun kq v8 v9 w' => ∃ (x8_1:List (S32)) (x9_1:Int),v9 = .int .i64 x9_1∧zq (zp.l0 kq a1 l2 x8_1 x9_1 ((zt l0 a1).f0) ((zt l0 a1).f1) ((zt l0 a1).f2) ((zt l0 a1).f3)=some r)∧zq (kq≤k)∧zq (Kd.S k32 32 w' w.heap.size (fun _=>True) v8 x8_1)∧zq (w'.heap[gb307]? = some (.cells #[.string ((zt l0 a1).f0),(.slice A306_1 ((zt l0 a1).f1).length c306_1),(.slice A306_2 ((zt l0 a1).f2).length c306_2),(.slice A306_3 ((zt l0 a1).f3).length c306_3)] 61 (0,0)))∧zq (Below w.heap.size w w'))
   case atStart=>exact⟨(([]:List (S32))),(0),vr,H',⟨Nat.le_refl _⟩,⟨by first|exact Kd.zx2 _ _ _ _ _|exact Kd.zx4 _ _ _ _ _|exact Kd.zxl _ _ _ _ _|exact Kd.zx3 _ _ _ _ _|exact Kd.zxf _ _ _ _ _⟩,⟨by(with_reducible repeat(first|refine zz ?_ _|refine zk ?_|refine zj ?_ _));refine qw (cs:=#[.string ((zt l0 a1).f0),.slice A306_1 ((zt l0 a1).f1).length c306_1,.slice A306_2 ((zt l0 a1).f2).length c306_2,.slice none 0 0]) ?_ 3 _ rfl;(with_reducible repeat(first|refine zz ?_ _|refine zk ?_|refine zj ?_ _));refine qw (cs:=#[.string ((zt l0 a1).f0),.slice A306_1 ((zt l0 a1).f1).length c306_1,.slice none 0 0,.slice none 0 0]) ?_ 2 _ rfl;(with_reducible repeat(first|refine zz ?_ _|refine zk ?_|refine zj ?_ _));refine qw (cs:=#[.string ((zt l0 a1).f0),.slice none 0 0,.slice none 0 0,.slice none 0 0]) ?_ 1 _ rfl;(with_reducible repeat(first|refine zz ?_ _|refine zk ?_|refine zj ?_ _));refine qw (cs:=#[.string (⟨#[]⟩:ByteArray),.slice none 0 0,.slice none 0 0,.slice none 0 0]) ?_ 0 _ rfl;(with_reducible repeat(first|refine zz ?_ _|refine zk ?_|refine zj ?_ _));exact BK307.out⟩,⟨bw⟩⟩
   case round=>
    clear H'
    (try clear c2);(try clear c4);(try clear c4b0);(try clear c5);(try clear c5b0);(try clear hcz7_0);(try clear hcz7_1);(try clear hcz7_2);(try clear hcz7_3);(try clear hfz7_0);(try clear hfz7_1);(try clear hfz7_2);(try clear hfz7_3);(try clear hx306_0);(try clear hx306_1);(try clear hx306_2);(try clear hx306_3);(try clear p306);(try clear q306)
    (try clear HO_8);(try clear BK307)
    obtain ⟨x8_1,x9_1,rfl,HA,HK1,HO_8,BK307,HB⟩:=hrel
    cases gk with
    | zero=>exact absurd HA.out (by simp [zp.l0])
    | succ k1=>
     have H:=HA.out
     clear HA
     simp only [zp.l0] at H
     by_cases c8:x9_1≤(((zt l0 a1).f3).length:Int)
     ·rw [if_pos c8] at H
      have c8b0:=decide_eq_true c8
      clear c8
      replace H:=Option.bind_eq_some_iff.mp H
      obtain ⟨⟨t308,t309,t310⟩,A90,H⟩:=H
      replace H:((zjh.f x9_1).bind fun bt311=>((some (([(⟨t308,t309,t310⟩:S38),(⟨bt311.1,bt311.2.1,bt311.2.2⟩:S38)]:List (S38)):List (S38))).bind fun y314=>(if x9_1 > 0 then(if 0≤(wrap64 (x9_1 - 1)) then(if(wrap64 (x9_1 - 1))<(((zt l0 a1).f3).length:Int) then(zp.l1 k1 a1 l2 x8_1 x9_1 y314 ((zqi ((zt l0 a1).f3) (wrap64 (x9_1 - 1))).f1) (((zqi ((zt l0 a1).f3) (wrap64 (x9_1 - 1))).f1).length:Int) 0 ((zt l0 a1).f0) ((zt l0 a1).f1) ((zt l0 a1).f2) ((zt l0 a1).f3)) else (none)) else (none)) else (zp.j2 k1 a1 l2 x8_1 x9_1 y314 ((zt l0 a1).f0) ((zt l0 a1).f1) ((zt l0 a1).f2) ((zt l0 a1).f3)))))=some r:=H
      have A9:=zq.mk A90
      clear A90
      replace H:=Option.bind_eq_some_iff.mp H
      obtain ⟨⟨t311,t312,t313⟩,A100,H⟩:=H
      replace H:((some (([(⟨t308,t309,t310⟩:S38),(⟨t311,t312,t313⟩:S38)]:List (S38)):List (S38))).bind fun y314=>(if x9_1 > 0 then(if 0≤(wrap64 (x9_1 - 1)) then(if(wrap64 (x9_1 - 1))<(((zt l0 a1).f3).length:Int) then(zp.l1 k1 a1 l2 x8_1 x9_1 y314 ((zqi ((zt l0 a1).f3) (wrap64 (x9_1 - 1))).f1) (((zqi ((zt l0 a1).f3) (wrap64 (x9_1 - 1))).f1).length:Int) 0 ((zt l0 a1).f0) ((zt l0 a1).f1) ((zt l0 a1).f2) ((zt l0 a1).f3)) else (none)) else (none)) else (zp.j2 k1 a1 l2 x8_1 x9_1 y314 ((zt l0 a1).f0) ((zt l0 a1).f1) ((zt l0 a1).f2) ((zt l0 a1).f3))))=some r:=H
      have A10:=zq.mk A100
      clear A100
      obtain ⟨y314,hy314⟩:∃ y_:List (S38),y_=(([(⟨t308,t309,t310⟩:S38),(⟨t311,t312,t313⟩:S38)]:List (S38))):=⟨_,rfl⟩
      replace H:(if x9_1 > 0 then(if 0≤(wrap64 (x9_1 - 1)) then(if(wrap64 (x9_1 - 1))<(((zt l0 a1).f3).length:Int) then(zp.l1 k1 a1 l2 x8_1 x9_1 y314 ((zqi ((zt l0 a1).f3) (wrap64 (x9_1 - 1))).f1) (((zqi ((zt l0 a1).f3) (wrap64 (x9_1 - 1))).f1).length:Int) 0 ((zt l0 a1).f0) ((zt l0 a1).f1) ((zt l0 a1).f2) ((zt l0 a1).f3)) else (none)) else (none)) else (zp.j2 k1 a1 l2 x8_1 x9_1 y314 ((zt l0 a1).f0) ((zt l0 a1).f1) ((zt l0 a1).f2) ((zt l0 a1).f3)))=some r:=by first|(rw [hy314];with_reducible exact H)|(have H2_:=(Option.bind_some _ _).symm.trans H;rw [hy314];with_reducible exact H2_)|(have H2_:=(Option.bind_some _ _).symm.trans H;with_reducible exact H2_)|with_reducible exact H|(rw [hy314];exact H)|exact H
      have Ny314:=zq.mk hy314
      clear hy314
      have HC11:=zq.mk H
      clear H
      obtain ⟨hcz12_0,hcz12_1,hcz12_2,hcz12_3,hfz12_0,hfz12_1,hfz12_2,hfz12_3⟩:=zqv BK307.out
      go_upto_if 35 with (first|((with_reducible refine qh (f:=62) rfl ?_);refine zqn (some 30) rfl rfl Tryd.func62 (by kernel_rfl) rfl #[.int .i64 a1] rfl gs ?_;(with_reducible refine(zjh.calls a1 t308 t309 t310 _ A9.out).mono ?_);rintro e w13 ⟨rfl,hb⟩;refine⟨_,rfl,?_⟩;replace HO_8:=zq.mk (Kd.zx7 (Kd.su HO_8.out) hb);replace BK307:=zq.mk (ze (g:=gb307) (o:=.cells #[.string ((zt l0 a1).f0),.slice A306_1 ((zt l0 a1).f1).length c306_1,.slice A306_2 ((zt l0 a1).f2).length c306_2,.slice A306_3 ((zt l0 a1).f3).length c306_3] 61 (0,0)) (up BK307.out) hb);replace HB:=zq.mk (zn bw hb);(try clear hb);(try clear hb2);(try clear hk);(try clear hi))|((with_reducible refine qh (f:=62) rfl ?_);refine zqn (some 32) rfl rfl Tryd.func62 (by kernel_rfl) rfl #[.int .i64 x9_1] rfl gs ?_;(with_reducible refine(zjh.calls x9_1 t311 t312 t313 _ A10.out).mono ?_);rintro e w14 ⟨rfl,hb⟩;refine⟨_,rfl,?_⟩;replace HO_8:=zq.mk (Kd.zx7 (Kd.su HO_8.out) hb);replace BK307:=zq.mk (ze (g:=gb307) (o:=.cells #[.string ((zt l0 a1).f0),.slice A306_1 ((zt l0 a1).f1).length c306_1,.slice A306_2 ((zt l0 a1).f2).length c306_2,.slice A306_3 ((zt l0 a1).f3).length c306_3] 61 (0,0)) (up BK307.out) hb);replace HB:=zq.mk (zn bw hb);(try clear hb);(try clear hb2);(try clear hk);(try clear hi))|((with_reducible refine qr (N:=33) rfl ?_);refine Kd.R_lit k38 _ 38 ?hg (N:=33) ?hd (xs:=([(⟨t308,t309,t310⟩:S38),(⟨t311,t312,t313⟩:S38)]:List (S38))) (inner := [.int .i64 t308,.int .i64 t309,.string t310,.int .i64 t311,.int .i64 t312,.string t313]) (ok:=fun _=>True) (okp:=fun _=>True) ?hr ?hp (fun _ hk=>hk) trivial (Below.refl _ _) (Nat.le_refl _) (by simp) ?_;(case hd=>rfl);(case hg=>rfl);(case hr=>first|(go_simp;done)|(go_simp;rfl));(case hp=>exact(Reps.c3 (show Kd.M k38 _ _ _ (⟨t308,t309,t310⟩:S38) [.int .i64 t308,.int .i64 t309,.string t310] from (zkn _ _ _ (⟨t308,t309,t310⟩:S38) )) (Reps.c3 (show Kd.M k38 _ _ _ (⟨t311,t312,t313⟩:S38) [.int .i64 t311,.int .i64 t312,.string t313] from (zkn _ _ _ (⟨t311,t312,t313⟩:S38) )) (Reps.none _ _))));intro v315 w15 ho16 hb hg_ hnew_;clear hg_ hnew_;(first|rw [← Ny314.out] at ho16|(simp only [Int.reduceToNat] at ho16;rw [← Ny314.out] at ho16));replace HO_8:=zq.mk (Kd.zx7 (Kd.su HO_8.out) hb);have HO316:=zq.mk (Kd.zjs ho16 (zw bw));replace BK307:=zq.mk (ze (g:=gb307) (o:=.cells #[.string ((zt l0 a1).f0),.slice A306_1 ((zt l0 a1).f1).length c306_1,.slice A306_2 ((zt l0 a1).f2).length c306_2,.slice A306_3 ((zt l0 a1).f3).length c306_3] 61 (0,0)) (up BK307.out) hb);replace HB:=zq.mk (zn bw hb);clear hb ho16))
      (try simp only [Act.put,List.setIfInBounds_toArray,List.set_cons_zero,List.set_cons_succ])
      go_cut [10] (fun v10 wc => ∃ (kq:Nat) (x10_10:List (S38)),zq (zp.j2 kq a1 l2 x8_1 x9_1 x10_10 ((zt l0 a1).f0) ((zt l0 a1).f1) ((zt l0 a1).f2) ((zt l0 a1).f3)=some r)∧zq (kq≤k1)∧zq (Kd.S k32 32 wc w.heap.size (fun _=>True) u8 x8_1)∧zq (Kd.R k38 38 wc w.heap.size (fun _=>True) v10 x10_10)∧zq (wc.heap[gb307]? = some (.cells #[.string ((zt l0 a1).f0),(.slice A306_1 ((zt l0 a1).f1).length c306_1),(.slice A306_2 ((zt l0 a1).f2).length c306_2),(.slice A306_3 ((zt l0 a1).f3).length c306_3)] 61 (0,0)))∧zq (Below w.heap.size w wc))
      case first=>
       have H:=HC11.out
       clear HC11
       by_cases c17:x9_1 > 0
       ·rw [if_pos c17] at H
        have c17b0:=decide_eq_true c17
        clear c17
        (first|rw [c17b0]|(simp only [zqp,zqq];rw [c17b0])|skip)
        obtain ⟨ji18,hji18⟩:∃ j_:Int,(wrap64 (x9_1 - 1))=j_:=⟨_,rfl⟩
        replace H:(if 0≤(ji18) then(if(ji18)<(((zt l0 a1).f3).length:Int) then(zp.l1 k1 a1 l2 x8_1 x9_1 y314 ((zqi ((zt l0 a1).f3) (ji18)).f1) (((zqi ((zt l0 a1).f3) (ji18)).f1).length:Int) 0 ((zt l0 a1).f0) ((zt l0 a1).f1) ((zt l0 a1).f2) ((zt l0 a1).f3)) else (none)) else (none))=some r:=by first|(rw [hji18] at H;exact H)|(simp only [hji18] at H ⊢;exact H)
        have hji18w:(IntKind.i64.wrap (x9_1 - 1))=ji18:=(zqp _).trans hji18
        by_cases c19:0≤(ji18)
        ·rw [if_pos c19] at H
         have c19b0:=decide_eq_true c19
         clear c19
         by_cases c20:(ji18)<(((zt l0 a1).f3).length:Int)
         ·rw [if_pos c20] at H
          have c20b0:=decide_eq_true c20
          clear c20
          have H':=zq.mk H
          clear H
          obtain ⟨hcz21_0,hcz21_1,hcz21_2,hcz21_3,hfz21_0,hfz21_1,hfz21_2,hfz21_3⟩:=zqv BK307.out
          have p317:0≤((ji18):Int):=dt
          have q317:(ji18)<(((zt l0 a1).f3).length:Int):=dt
          obtain ⟨ad317,A317_1,c317_1,e317,hx317_0,hx317_1,hl317_1,hi317_1⟩:=zvt HR306_3.out (ji18) p317 q317
          cases e317
          replace hx317_0:=(HB.out.cell (World.block_lt_of_cell? w _ hx317_0)).trans hx317_0
          replace hx317_1:=(HB.out.cell (World.block_lt_of_cell? w _ hx317_1)).trans hx317_1
          have HR317_1:=zq.mk hi317_1
          have HC317_1:=zq.mk hl317_1
          clear hi317_1 hl317_1
          replace p317:=eq_true p317
          replace q317:=eq_true q317
          go_wp2
          go_loopg [10,44] k1 (fun kq v10 v44 w' => ∃ (x10_2:List (S38)) (x44_2:Int),v44 = .int .i64 x44_2∧zq (zp.l1 kq a1 l2 x8_1 x9_1 x10_2 ((zqi ((zt l0 a1).f3) (ji18)).f1) (((zqi ((zt l0 a1).f3) (ji18)).f1).length:Int) x44_2 ((zt l0 a1).f0) ((zt l0 a1).f1) ((zt l0 a1).f2) ((zt l0 a1).f3)=some r)∧zq (kq≤k1)∧zq (Kd.S k32 32 w' w.heap.size (fun _=>True) u8 x8_1)∧zq (Kd.R k38 38 w' w.heap.size (fun _=>True) v10 x10_2)∧zq (w'.heap[gb307]? = some (.cells #[.string ((zt l0 a1).f0),(.slice A306_1 ((zt l0 a1).f1).length c306_1),(.slice A306_2 ((zt l0 a1).f2).length c306_2),(.slice (some ad317) ((zt l0 a1).f3).length c306_3)] 61 (0,0)))∧zq (Below w.heap.size w w'))
          case atStart=>exact⟨(y314),(0),vr,H',⟨Nat.le_refl _⟩,⟨by(with_reducible repeat(first|apply Kd.zkr|apply Kd.zkq|apply Kd.zvi));exact HO_8.out⟩,⟨by(with_reducible repeat(first|apply Kd.zq5|apply Kd.zq7|apply Kd.zjf));exact HO316.out⟩,⟨by(with_reducible repeat(first|refine zz ?_ _|refine zk ?_|refine zj ?_ _));exact BK307.out⟩,⟨bw⟩⟩
          case round=>
           clear H'
           (try clear c2);(try clear c3);(try clear c4);(try clear c4b0);(try clear c5);(try clear c5b0);(try clear c8);(try clear c8b0);(try clear c17);(try clear c17b0);(try clear c19);(try clear c19b0);(try clear c20);(try clear c20b0);(try clear hcz12_0);(try clear hcz12_1);(try clear hcz12_2);(try clear hcz12_3);(try clear hcz21_0);(try clear hcz21_1);(try clear hcz21_2);(try clear hcz21_3);(try clear hcz7_0);(try clear hcz7_1);(try clear hcz7_2);(try clear hcz7_3);(try clear hfz12_0);(try clear hfz12_1);(try clear hfz12_2);(try clear hfz12_3);(try clear hfz21_0);(try clear hfz21_1);(try clear hfz21_2);(try clear hfz21_3);(try clear hfz7_0);(try clear hfz7_1);(try clear hfz7_2);(try clear hfz7_3);(try clear hx306_0);(try clear hx306_1);(try clear hx306_2);(try clear hx306_3);(try clear hx317_0);(try clear hx317_1);(try clear p306);(try clear p317);(try clear q306);(try clear q317)
           (try clear HO_8);(try clear HO_10);(try clear BK307)
           obtain ⟨x10_2,x44_2,rfl,HA,HK2,HO_8,HO_10,BK307,HB⟩:=hrel
           cases gk with
           | zero=>exact absurd HA.out (by simp [zp.l1])
           | succ k2=>
            have H:=HA.out
            clear HA
            simp only [zp.l1] at H
            by_cases c22:x44_2<(((zqi ((zt l0 a1).f3) (ji18)).f1).length:Int)
            ·rw [if_pos c22] at H
             have c22b0:=decide_eq_true c22
             clear c22
             by_cases c23:0≤x44_2
             ·rw [if_pos c23] at H
              have c23b0:=decide_eq_true c23
              clear c23
              by_cases c24:x44_2<(((zqi ((zt l0 a1).f3) (ji18)).f1).length:Int)
              ·rw [if_pos c24] at H
               have c24b0:=decide_eq_true c24
               clear c24
               by_cases c25:0≤(rd ((zqi ((zt l0 a1).f3) (ji18)).f1) x44_2)
               ·rw [if_pos c25] at H
                have c25b0:=decide_eq_true c25
                clear c25
                by_cases c26:(rd ((zqi ((zt l0 a1).f3) (ji18)).f1) x44_2)<(l2.length:Int)
                ·rw [if_pos c26] at H
                 have c26b0:=decide_eq_true c26
                 clear c26
                 by_cases c27:x10_2.length<4398046511104
                 ·rw [if_pos c27] at H
                  have LMc27:=zq.mk c27
                  clear c27
                  obtain ⟨y320,hy320⟩:∃ y_:List (S38),y_=(x10_2 ++ [(⟨(qf l2 (rd ((zqi ((zt l0 a1).f3) (ji18)).f1) x44_2)).f0,(qf l2 (rd ((zqi ((zt l0 a1).f3) (ji18)).f1) x44_2)).f1,(qf l2 (rd ((zqi ((zt l0 a1).f3) (ji18)).f1) x44_2)).f2⟩:S38)]):=⟨_,rfl⟩
                  replace H:(zp.l1 k2 a1 l2 x8_1 x9_1 y320 ((zqi ((zt l0 a1).f3) (ji18)).f1) (((zqi ((zt l0 a1).f3) (ji18)).f1).length:Int) (wrap64 (x44_2+1)) ((zt l0 a1).f0) ((zt l0 a1).f1) ((zt l0 a1).f2) ((zt l0 a1).f3))=some r:=by first|(rw [hy320];with_reducible exact H)|(have H2_:=(Option.bind_some _ _).symm.trans H;rw [hy320];with_reducible exact H2_)|(have H2_:=(Option.bind_some _ _).symm.trans H;with_reducible exact H2_)|with_reducible exact H|(rw [hy320];exact H)|exact H
                  have Ny320:=zq.mk hy320
                  clear hy320
                  have H':=zq.mk H
                  clear H
                  have p318:0≤(x44_2:Int):=dt
                  have q318:x44_2<(((zqi ((zt l0 a1).f3) (ji18)).f1).length:Int):=dt
                  obtain ⟨ad318,e318,hx318_0⟩:=Kd.zjb HR317_1.out x44_2 p318 q318
                  cases e318
                  replace hx318_0:=(HB.out.cell (World.block_lt_of_cell? w _ hx318_0)).trans hx318_0
                  replace p318:=eq_true p318
                  replace q318:=eq_true q318
                  have p319:0≤((rd ((zqi ((zt l0 a1).f3) (ji18)).f1) x44_2):Int):=dt
                  have q319:(rd ((zqi ((zt l0 a1).f3) (ji18)).f1) x44_2)<(l2.length:Int):=dt
                  obtain ⟨ad319,e319,hx319_0,hx319_1,hx319_2⟩:=zxq HR2.out (rd ((zqi ((zt l0 a1).f3) (ji18)).f1) x44_2) p319 q319
                  cases e319
                  replace hx319_0:=(HB.out.cell (World.block_lt_of_cell? w _ hx319_0)).trans hx319_0
                  replace hx319_1:=(HB.out.cell (World.block_lt_of_cell? w _ hx319_1)).trans hx319_1
                  replace hx319_2:=(HB.out.cell (World.block_lt_of_cell? w _ hx319_2)).trans hx319_2
                  replace p319:=eq_true p319
                  replace q319:=eq_true q319
                  go_wp2_with (first|((with_reducible refine zj7 (b:=.append) (xs:=#[.tmp 48,.tmp 53]) rfl ?_);at_builtin;refine Kd.zjj k38 (w0:=w) w.heap.size rfl (.tmp 48) (.tmp 53) 23 38 (.agg #[(.int .i64 0),(.int .i64 0),(.string ⟨#[]⟩)]) 32 rfl Tryd.underlying23 info38 rfl (by decide) (by omega) u10 x10_2 (⟨(qf l2 (rd ((zqi ((zt l0 a1).f3) (ji18)).f1) x44_2)).f0,(qf l2 (rd ((zqi ((zt l0 a1).f3) (ji18)).f1) x44_2)).f1,(qf l2 (rd ((zqi ((zt l0 a1).f3) (ji18)).f1) x44_2)).f2⟩:S38) [.int .i64 ((qf l2 (rd ((zqi ((zt l0 a1).f3) (ji18)).f1) x44_2)).f0),.int .i64 ((qf l2 (rd ((zqi ((zt l0 a1).f3) (ji18)).f1) x44_2)).f1),.string ((qf l2 (rd ((zqi ((zt l0 a1).f3) (ji18)).f1) x44_2)).f2)] (fun _=>True) (fun _=>False) rfl rfl ?aP (fun _ hk=>hk.elim) ?aF ?aO ?aB ?aS ?aL ?_;(case aP=>exact zkn _ _ _ (⟨(qf l2 (rd ((zqi ((zt l0 a1).f3) (ji18)).f1) x44_2)).f0,(qf l2 (rd ((zqi ((zt l0 a1).f3) (ji18)).f1) x44_2)).f1,(qf l2 (rd ((zqi ((zt l0 a1).f3) (ji18)).f1) x44_2)).f2⟩:S38));(case aB=>exact bw);(case aF=>exact(fun _ _=>trivial));(case aO=>exact(Kd.ru HO_10.out));(case aS=>exact(zw bw));(case aL=>have:=LMc27.out;omega);intro v321 w28 ho hb hg hat;rw [← Ny320.out] at ho;replace HO_8:=zq.mk (Kd.S_over' (Kd.su HO_8.out) (Kd.R_typed (Kd.ru HO_10.out)) (by decide) hg);replace BK307:=zq.mk (zxk (g:=gb307) (o:=.cells #[.string ((zt l0 a1).f0),.slice A306_1 ((zt l0 a1).f1).length c306_1,.slice A306_2 ((zt l0 a1).f2).length c306_2,.slice (some ad317) ((zt l0 a1).f3).length c306_3] 61 (0,0)) (up BK307.out) hg (Kd.R_ne HO_10.out BK307.out (by decide)));replace HB:=zq.mk (hb);have HO322:=zq.mk (ho);clear HO_10 ho hb hg hat))
                  go_roundg k2
                  case measure=>have:=HK1.out;have:=HK2.out;omega
                  case rel=>exact⟨(y320),(wrap64 (x44_2+1)),vr,H',⟨by have:=HK1.out;have:=HK2.out;omega⟩,⟨by(with_reducible repeat(first|apply Kd.zkr|apply Kd.zkq|apply Kd.zvi));exact HO_8.out⟩,⟨by(with_reducible repeat(first|apply Kd.zq5|apply Kd.zq7|apply Kd.zjf));exact HO322.out⟩,⟨by(with_reducible repeat(first|refine zz ?_ _|refine zk ?_|refine zj ?_ _));exact BK307.out⟩,⟨bw⟩⟩
                 rw [if_neg c27] at H
                 exact absurd H (by simp)
                rw [if_neg c26] at H
                exact absurd H (by simp)
               rw [if_neg c25] at H
               exact absurd H (by simp)
              rw [if_neg c24] at H
              exact absurd H (by simp)
             rw [if_neg c23] at H
             exact absurd H (by simp)
            rw [if_neg c22] at H
            have c22b0:=decide_eq_false c22
            clear c22
            have H':=zq.mk H
            clear H
            go_wp2
            go_meet
            case rel=>exact⟨_,(x10_2),H',⟨by have:=HK1.out;have:=HK2.out;first|omega|exact Nat.le_refl _⟩,⟨by(with_reducible repeat(first|apply Kd.zkr|apply Kd.zkq|apply Kd.zvi));exact HO_8.out⟩,⟨by(with_reducible repeat(first|apply Kd.zq5|apply Kd.zq7|apply Kd.zjf));exact HO_10.out⟩,⟨by(with_reducible repeat(first|refine zz ?_ _|refine zk ?_|refine zj ?_ _));exact BK307.out⟩,⟨bw⟩⟩
         rw [if_neg c20] at H
         exact absurd H (by simp)
        rw [if_neg c19] at H
        exact absurd H (by simp)
       rw [if_neg c17] at H
       have c17b0:=decide_eq_false c17
       clear c17
       (first|rw [c17b0]|(simp only [zqp,zqq];rw [c17b0])|skip)
       have H':=zq.mk H
       clear H
       go_wp2
       go_meet
       case rel=>exact⟨_,(y314),H',⟨by have:=HK1.out;first|omega|exact Nat.le_refl _⟩,⟨by(with_reducible repeat(first|apply Kd.zkr|apply Kd.zkq|apply Kd.zvi));exact HO_8.out⟩,⟨by(with_reducible repeat(first|apply Kd.zq5|apply Kd.zq7|apply Kd.zjf));exact HO316.out⟩,⟨by(with_reducible repeat(first|refine zz ?_ _|refine zk ?_|refine zj ?_ _));exact BK307.out⟩,⟨bw⟩⟩
      case rest=>
       clear HC11
       (try clear c2);(try clear c3);(try clear c4);(try clear c4b0);(try clear c5);(try clear c5b0);(try clear c8);(try clear c8b0);(try clear hcz12_0);(try clear hcz12_1);(try clear hcz12_2);(try clear hcz12_3);(try clear hcz7_0);(try clear hcz7_1);(try clear hcz7_2);(try clear hcz7_3);(try clear hfz12_0);(try clear hfz12_1);(try clear hfz12_2);(try clear hfz12_3);(try clear hfz7_0);(try clear hfz7_1);(try clear hfz7_2);(try clear hfz7_3);(try clear hx306_0);(try clear hx306_1);(try clear hx306_2);(try clear hx306_3);(try clear p306);(try clear q306)
       (try clear HO_8);(try clear HO_10);(try clear BK307)
       obtain ⟨kq,x10_10,HA,HJ10,HO_8,HO_10,BK307,HB⟩:=hcut
       cases kq with
       | zero=>exact absurd HA.out (by simp [zp.j2])
       | succ kj10=>
        have H:=HA.out
        clear HA
        simp only [zp.j2] at H
        have H':=zq.mk H
        clear H
        obtain ⟨hcz29_0,hcz29_1,hcz29_2,hcz29_3,hfz29_0,hfz29_1,hfz29_2,hfz29_3⟩:=zqv BK307.out
        go_wp2
        go_loopg [10,59] kj10 (fun kq v10 v59 w' => ∃ (x10_3:List (S38)) (x59_3:Int),v59 = .int .i64 x59_3∧zq (zp.l2 kq a1 l2 x8_1 x9_1 x10_3 ((zt l0 a1).f2) (((zt l0 a1).f2).length:Int) x59_3 ((zt l0 a1).f0) ((zt l0 a1).f1) ((zt l0 a1).f2) ((zt l0 a1).f3)=some r)∧zq (kq≤kj10)∧zq (Kd.S k32 32 w' w.heap.size (fun _=>True) u8 x8_1)∧zq (Kd.R k38 38 w' w.heap.size (fun _=>True) v10 x10_3)∧zq (w'.heap[gb307]? = some (.cells #[.string ((zt l0 a1).f0),(.slice A306_1 ((zt l0 a1).f1).length c306_1),(.slice A306_2 ((zt l0 a1).f2).length c306_2),(.slice A306_3 ((zt l0 a1).f3).length c306_3)] 61 (0,0)))∧zq (Below w.heap.size w w'))
        case atStart=>exact⟨(x10_10),(0),vr,H',⟨Nat.le_refl _⟩,⟨by(with_reducible repeat(first|apply Kd.zkr|apply Kd.zkq|apply Kd.zvi));exact HO_8.out⟩,⟨by(with_reducible repeat(first|apply Kd.zq5|apply Kd.zq7|apply Kd.zjf));exact HO_10.out⟩,⟨by(with_reducible repeat(first|refine zz ?_ _|refine zk ?_|refine zj ?_ _));exact BK307.out⟩,⟨bw⟩⟩
        case round=>
         clear H'
         (try clear c2);(try clear c3);(try clear c4);(try clear c4b0);(try clear c5);(try clear c5b0);(try clear c8);(try clear c8b0);(try clear hcz12_0);(try clear hcz12_1);(try clear hcz12_2);(try clear hcz12_3);(try clear hcz29_0);(try clear hcz29_1);(try clear hcz29_2);(try clear hcz29_3);(try clear hcz7_0);(try clear hcz7_1);(try clear hcz7_2);(try clear hcz7_3);(try clear hfz12_0);(try clear hfz12_1);(try clear hfz12_2);(try clear hfz12_3);(try clear hfz29_0);(try clear hfz29_1);(try clear hfz29_2);(try clear hfz29_3);(try clear hfz7_0);(try clear hfz7_1);(try clear hfz7_2);(try clear hfz7_3);(try clear hx306_0);(try clear hx306_1);(try clear hx306_2);(try clear hx306_3);(try clear p306);(try clear q306)
         (try clear HO_8);(try clear HO_10);(try clear BK307)
         obtain ⟨x10_3,x59_3,rfl,HA,HK3,HO_8,HO_10,BK307,HB⟩:=hrel
         cases gk with
         | zero=>exact absurd HA.out (by simp [zp.l2])
         | succ k3=>
          have H:=HA.out
          clear HA
          simp only [zp.l2] at H
          by_cases c30:x59_3<(((zt l0 a1).f2).length:Int)
          ·rw [if_pos c30] at H
           have c30b0:=decide_eq_true c30
           clear c30
           by_cases c31:0≤x59_3
           ·rw [if_pos c31] at H
            have c31b0:=decide_eq_true c31
            clear c31
            by_cases c32:x59_3<(((zt l0 a1).f2).length:Int)
            ·rw [if_pos c32] at H
             have c32b0:=decide_eq_true c32
             clear c32
             by_cases c33:0≤(rd ((zt l0 a1).f2) x59_3)
             ·rw [if_pos c33] at H
              have c33b0:=decide_eq_true c33
              clear c33
              by_cases c34:(rd ((zt l0 a1).f2) x59_3)<(l2.length:Int)
              ·rw [if_pos c34] at H
               have c34b0:=decide_eq_true c34
               clear c34
               by_cases c35:x10_3.length<4398046511104
               ·rw [if_pos c35] at H
                have LMc35:=zq.mk c35
                clear c35
                obtain ⟨y325,hy325⟩:∃ y_:List (S38),y_=(x10_3 ++ [(⟨(qf l2 (rd ((zt l0 a1).f2) x59_3)).f0,(qf l2 (rd ((zt l0 a1).f2) x59_3)).f1,(qf l2 (rd ((zt l0 a1).f2) x59_3)).f2⟩:S38)]):=⟨_,rfl⟩
                replace H:(zp.l2 k3 a1 l2 x8_1 x9_1 y325 ((zt l0 a1).f2) (((zt l0 a1).f2).length:Int) (wrap64 (x59_3+1)) ((zt l0 a1).f0) ((zt l0 a1).f1) ((zt l0 a1).f2) ((zt l0 a1).f3))=some r:=by first|(rw [hy325];with_reducible exact H)|(have H2_:=(Option.bind_some _ _).symm.trans H;rw [hy325];with_reducible exact H2_)|(have H2_:=(Option.bind_some _ _).symm.trans H;with_reducible exact H2_)|with_reducible exact H|(rw [hy325];exact H)|exact H
                have Ny325:=zq.mk hy325
                clear hy325
                have H':=zq.mk H
                clear H
                have p323:0≤(x59_3:Int):=dt
                have q323:x59_3<(((zt l0 a1).f2).length:Int):=dt
                obtain ⟨ad323,e323,hx323_0⟩:=Kd.zjb HR306_2.out x59_3 p323 q323
                cases e323
                replace hx323_0:=(HB.out.cell (World.block_lt_of_cell? w _ hx323_0)).trans hx323_0
                replace p323:=eq_true p323
                replace q323:=eq_true q323
                have p324:0≤((rd ((zt l0 a1).f2) x59_3):Int):=dt
                have q324:(rd ((zt l0 a1).f2) x59_3)<(l2.length:Int):=dt
                obtain ⟨ad324,e324,hx324_0,hx324_1,hx324_2⟩:=zxq HR2.out (rd ((zt l0 a1).f2) x59_3) p324 q324
                cases e324
                replace hx324_0:=(HB.out.cell (World.block_lt_of_cell? w _ hx324_0)).trans hx324_0
                replace hx324_1:=(HB.out.cell (World.block_lt_of_cell? w _ hx324_1)).trans hx324_1
                replace hx324_2:=(HB.out.cell (World.block_lt_of_cell? w _ hx324_2)).trans hx324_2
                replace p324:=eq_true p324
                replace q324:=eq_true q324
                go_wp2_with (first|((with_reducible refine zj7 (b:=.append) (xs:=#[.tmp 63,.tmp 68]) rfl ?_);at_builtin;refine Kd.zjj k38 (w0:=w) w.heap.size rfl (.tmp 63) (.tmp 68) 23 38 (.agg #[(.int .i64 0),(.int .i64 0),(.string ⟨#[]⟩)]) 32 rfl Tryd.underlying23 info38 rfl (by decide) (by omega) u10 x10_3 (⟨(qf l2 (rd ((zt l0 a1).f2) x59_3)).f0,(qf l2 (rd ((zt l0 a1).f2) x59_3)).f1,(qf l2 (rd ((zt l0 a1).f2) x59_3)).f2⟩:S38) [.int .i64 ((qf l2 (rd ((zt l0 a1).f2) x59_3)).f0),.int .i64 ((qf l2 (rd ((zt l0 a1).f2) x59_3)).f1),.string ((qf l2 (rd ((zt l0 a1).f2) x59_3)).f2)] (fun _=>True) (fun _=>False) rfl rfl ?aP (fun _ hk=>hk.elim) ?aF ?aO ?aB ?aS ?aL ?_;(case aP=>exact zkn _ _ _ (⟨(qf l2 (rd ((zt l0 a1).f2) x59_3)).f0,(qf l2 (rd ((zt l0 a1).f2) x59_3)).f1,(qf l2 (rd ((zt l0 a1).f2) x59_3)).f2⟩:S38));(case aB=>exact bw);(case aF=>exact(fun _ _=>trivial));(case aO=>exact(Kd.ru HO_10.out));(case aS=>exact(zw bw));(case aL=>have:=LMc35.out;omega);intro v326 w36 ho hb hg hat;rw [← Ny325.out] at ho;replace HO_8:=zq.mk (Kd.S_over' (Kd.su HO_8.out) (Kd.R_typed (Kd.ru HO_10.out)) (by decide) hg);replace BK307:=zq.mk (zxk (g:=gb307) (o:=.cells #[.string ((zt l0 a1).f0),.slice A306_1 ((zt l0 a1).f1).length c306_1,.slice (some ad323) ((zt l0 a1).f2).length c306_2,.slice A306_3 ((zt l0 a1).f3).length c306_3] 61 (0,0)) (up BK307.out) hg (Kd.R_ne HO_10.out BK307.out (by decide)));replace HB:=zq.mk (hb);have HO327:=zq.mk (ho);clear HO_10 ho hb hg hat))
                go_roundg k3
                case measure=>have:=HK1.out;have:=HJ10.out;have:=HK3.out;omega
                case rel=>exact⟨(y325),(wrap64 (x59_3+1)),vr,H',⟨by have:=HK1.out;have:=HJ10.out;have:=HK3.out;omega⟩,⟨by(with_reducible repeat(first|apply Kd.zkr|apply Kd.zkq|apply Kd.zvi));exact HO_8.out⟩,⟨by(with_reducible repeat(first|apply Kd.zq5|apply Kd.zq7|apply Kd.zjf));exact HO327.out⟩,⟨by(with_reducible repeat(first|refine zz ?_ _|refine zk ?_|refine zj ?_ _));exact BK307.out⟩,⟨bw⟩⟩
               rw [if_neg c35] at H
               exact absurd H (by simp)
              rw [if_neg c34] at H
              exact absurd H (by simp)
             rw [if_neg c33] at H
             exact absurd H (by simp)
            rw [if_neg c32] at H
            exact absurd H (by simp)
           rw [if_neg c31] at H
           exact absurd H (by simp)
          rw [if_neg c30] at H
          have c30b0:=decide_eq_false c30
          clear c30
          replace H:=Option.bind_eq_some_iff.mp H
          obtain ⟨⟨t328,t329⟩,A370,H⟩:=H
          replace H:(if x9_1=0 then((zx.f k3 l2).bind fun bt333=>(if x8_1.length<2932031007402 then(zp.l0 k3 a1 l2 (x8_1 ++ [(⟨t328,bt333.1⟩:S32)]) (wrap64 (x9_1+1)) ((zt l0 a1).f0) ((zt l0 a1).f1) ((zt l0 a1).f2) ((zt l0 a1).f3)) else (none))) else (if x8_1.length<2932031007402 then(zp.l0 k3 a1 l2 (x8_1 ++ [(⟨t328,([]:List Int)⟩:S32)]) (wrap64 (x9_1+1)) ((zt l0 a1).f0) ((zt l0 a1).f1) ((zt l0 a1).f2) ((zt l0 a1).f3)) else (none)))=some r:=H
          have A37:=zq.mk A370
          clear A370
          by_cases c38:x9_1=0
          ·rw [if_pos c38] at H
           have c38b0:(x9_1 == 0)=true:=beq_iff_eq.mpr c38
           have c38b1:(x9_1 != 0)=false:=bne_eq_false_iff_eq.mpr c38
           clear c38
           replace H:=Option.bind_eq_some_iff.mp H
           obtain ⟨⟨t333,t334⟩,A390,H⟩:=H
           replace H:(if x8_1.length<2932031007402 then(zp.l0 k3 a1 l2 (x8_1 ++ [(⟨t328,t333⟩:S32)]) (wrap64 (x9_1+1)) ((zt l0 a1).f0) ((zt l0 a1).f1) ((zt l0 a1).f2) ((zt l0 a1).f3)) else (none))=some r:=H
           have A39:=zq.mk A390
           clear A390
           by_cases c40:x8_1.length<2932031007402
           ·rw [if_pos c40] at H
            have LMc40:=zq.mk c40
            clear c40
            obtain ⟨y337,hy337⟩:∃ y_:List (S32),y_=(x8_1 ++ [(⟨t328,t333⟩:S32)]):=⟨_,rfl⟩
            replace H:(zp.l0 k3 a1 l2 y337 (wrap64 (x9_1+1)) ((zt l0 a1).f0) ((zt l0 a1).f1) ((zt l0 a1).f2) ((zt l0 a1).f3))=some r:=by first|(rw [hy337];with_reducible exact H)|(have H2_:=(Option.bind_some _ _).symm.trans H;rw [hy337];with_reducible exact H2_)|(have H2_:=(Option.bind_some _ _).symm.trans H;with_reducible exact H2_)|with_reducible exact H|(rw [hy337];exact H)|exact H
            have Ny337:=zq.mk hy337
            clear hy337
            have H':=zq.mk H
            clear H
            obtain ⟨Ao41,co41,eo41⟩:=Kd.zje HO_10.out
            subst eo41
            go_wp2_with (first|((with_reducible refine qh (f:=63) rfl ?_);refine zqn (some 73) rfl rfl Tryd.func63 (by kernel_rfl) rfl #[.slice Ao41 x10_3.length co41] rfl gs ?_;(with_reducible refine(zx.calls k3 _ _ x10_3 t328 t329 _ ?side1 ?side2 A37.out).mono ?_);(case side1=>exact Kd.cu (Kd.zqk HO_10.out).2.2);(case side2=>exact(Kd.zqk HO_10.out).2.1);rintro e w42 ⟨v330,rfl,ho0,hb⟩;refine⟨_,rfl,?_⟩;replace HO_8:=zq.mk (Kd.S_elder' (Kd.su HO_8.out) (Kd.zxh ho0) hb);replace HO_10:=zq.mk (Kd.zq4 (Kd.ru HO_10.out) hb);have HO331:=zq.mk (Kd.zjs ho0 (zw bw));replace BK307:=zq.mk (ze (g:=gb307) (o:=.cells #[.string ((zt l0 a1).f0),.slice A306_1 ((zt l0 a1).f1).length c306_1,.slice A306_2 ((zt l0 a1).f2).length c306_2,.slice A306_3 ((zt l0 a1).f3).length c306_3] 61 (0,0)) (up BK307.out) hb);replace HB:=zq.mk (zn bw hb);(try clear hb);(try clear hb2);(try clear hk);(try clear hi);(try clear ho0);obtain ⟨Ao43,co43,eo43⟩:=Kd.zje HO331.out;subst eo43)|((with_reducible refine qr (N:=17) rfl ?_);refine qm ?hg (N:=17) ?hd (cs:=#[.slice none 0 0,.slice none 0 0]) (t:=32) ?hr ?_;(case hd=>rfl);(case hg=>rfl);(case hr=>first|(go_simp;done)|(go_simp;rfl));intro gb332 hg w44 hbox hb;replace HO_8:=zq.mk (Kd.zx7 (Kd.zvh (Kd.su HO_8.out) gb332 (Nat.le_of_eq hg.symm)) hb);replace HO_10:=zq.mk (Kd.zq4 (Kd.ru HO_10.out) hb);replace HO331:=zq.mk (Kd.zq4 (Kd.ru HO331.out) hb);have BK332:=zq.mk (hbox);have GW332:=zq.mk ((by rw [hg];exact(zw bw):w.heap.size≤gb332));have GE332:=zq.mk ((by rw [hg];exact(zw bw):w.heap.size≤gb332));replace HB:=zq.mk (zn bw hb);have NB307_332:=zq.mk ((by rw [hg];exact Nat.ne_of_lt (zq3 (g:=gb307) (o:=.cells #[.string ((zt l0 a1).f0),.slice A306_1 ((zt l0 a1).f1).length c306_1,.slice A306_2 ((zt l0 a1).f2).length c306_2,.slice A306_3 ((zt l0 a1).f3).length c306_3] 61 (0,0)) (up BK307.out)):gb307≠gb332));have NB332_307:=zq.mk ((by rw [hg];exact Nat.ne_of_gt (zq3 (g:=gb307) (o:=.cells #[.string ((zt l0 a1).f0),.slice A306_1 ((zt l0 a1).f1).length c306_1,.slice A306_2 ((zt l0 a1).f2).length c306_2,.slice A306_3 ((zt l0 a1).f3).length c306_3] 61 (0,0)) (up BK307.out)):gb332≠gb307));replace BK307:=zq.mk (ze (g:=gb307) (o:=.cells #[.string ((zt l0 a1).f0),.slice A306_1 ((zt l0 a1).f1).length c306_1,.slice A306_2 ((zt l0 a1).f2).length c306_2,.slice A306_3 ((zt l0 a1).f3).length c306_3] 61 (0,0)) (up BK307.out) hb);clear hb hbox hg;have hnb45:=NB332_307.out;have hnc45:=NB307_332.out;obtain ⟨hcz46_0,hcz46_1,hfz46_0,hfz46_1⟩:=zji BK332.out)|((with_reducible refine qh (f:=63) rfl ?_);refine zqn (some 82) rfl rfl Tryd.func63 (by kernel_rfl) rfl #[.slice A2 l2.length c2] rfl gs ?_;(with_reducible refine(zx.calls k3 _ _ l2 t333 t334 _ ?side1 ?side2 A39.out).mono ?_);(case side1=>exact Kd.qu HR2.out bw);(case side2=>exact HC2.out);rintro e w47 ⟨v335,rfl,ho0,hb⟩;refine⟨_,rfl,?_⟩;replace HO_8:=zq.mk (Kd.S_elder' (Kd.su (Kd.zkk (Kd.S_far (p:=⟨gb332,1,none⟩) (Kd.S_far (p:=⟨gb332,0,none⟩) (Kd.zkk HO_8.out (fun k_ hk=>(⟨hk,hk.2⟩:_∧k_≠gb332))) (fun _ hk=>hk.2) (.slice Ao43 t328.length co43)) (fun _ hk=>hk.2) (.slice none 0 0)) (fun _ h_=>h_.1))) (Kd.zxh ho0) hb);replace HO_10:=zq.mk (Kd.zq4 (Kd.ru (Kd.zqy (Kd.zxt (p:=⟨gb332,1,none⟩) (Kd.zxt (p:=⟨gb332,0,none⟩) (Kd.zj4 HO_10.out BK332.out (by decide)) (fun _ hk=>hk.2) (.slice Ao43 t328.length co43)) (fun _ hk=>hk.2) (.slice none 0 0)) (fun _ h_=>h_.1))) hb);have HO336:=zq.mk (Kd.zjs (Kd.R_new' ho0 (Kd.R_lt (Kd.ru (Kd.zqy (Kd.zxt (p:=⟨gb332,1,none⟩) (Kd.zxt (p:=⟨gb332,0,none⟩) (Kd.zj4 HO331.out BK332.out (by decide)) (fun _ hk=>hk.2) (.slice Ao43 t328.length co43)) (fun _ hk=>hk.2) (.slice none 0 0)) (fun _ h_=>h_.1))))) (zw bw));replace HO331:=zq.mk (Kd.zk0 (Kd.ru (Kd.zqy (Kd.zxt (p:=⟨gb332,1,none⟩) (Kd.zxt (p:=⟨gb332,0,none⟩) (Kd.zj4 HO331.out BK332.out (by decide)) (fun _ hk=>hk.2) (.slice Ao43 t328.length co43)) (fun _ hk=>hk.2) (.slice none 0 0)) (fun _ h_=>h_.1))) (Kd.zxh ho0) hb);replace BK307:=zq.mk (ze (g:=gb307) (o:=.cells #[.string ((zt l0 a1).f0),.slice A306_1 ((zt l0 a1).f1).length c306_1,.slice A306_2 ((zt l0 a1).f2).length c306_2,.slice A306_3 ((zt l0 a1).f3).length c306_3] 61 (0,0)) (by(with_reducible repeat(first|refine zz ?_ _|refine zk ?_|refine zj ?_ _));refine zqf ?_ NB307_332.out _;(with_reducible repeat(first|refine zz ?_ _|refine zk ?_|refine zj ?_ _));refine zqf ?_ NB307_332.out _;(with_reducible repeat(first|refine zz ?_ _|refine zk ?_|refine zj ?_ _));exact BK307.out) hb);replace BK332:=zq.mk (ze (g:=gb332) (o:=.cells #[.slice Ao43 t328.length co43,.slice none 0 0] 32 (0,0)) (by(with_reducible repeat(first|refine zz ?_ _|refine zk ?_|refine zj ?_ _));refine qw (cs:=#[.slice Ao43 t328.length co43,.slice none 0 0]) ?_ 1 _ rfl;(with_reducible repeat(first|refine zz ?_ _|refine zk ?_|refine zj ?_ _));refine qw (cs:=#[.slice none 0 0,.slice none 0 0]) ?_ 0 _ rfl;(with_reducible repeat(first|refine zz ?_ _|refine zk ?_|refine zj ?_ _));exact BK332.out) hb);replace HB:=zq.mk (zn bw hb);(try clear hb);(try clear hb2);(try clear hk);(try clear hi);(try clear ho0);obtain ⟨Ao48,co48,eo48⟩:=Kd.zje HO336.out;subst eo48;obtain ⟨hcz49_0,hcz49_1,hfz49_0,hfz49_1⟩:=zji BK332.out)|((with_reducible refine zvk (t:=30) (p:=85) rfl ?_);refine zk5 (t:=30) (p:=85) (v:=?vo_w50) (w1:=(w47.setCell ⟨gb332,1,none⟩ (.slice Ao48 t333.length co48))) ?hg ?ho ?hn ?hr ?_;(case ho=>rfl);(case hg=>rfl);(case hn=>rfl);(case hr=>first|(go_simp;done)|(go_simp;rfl));intro w50 hw;have n0_:zq (Kd.S k32 32 w50 w.heap.size (fun k_=>some k_≠(.slice Ao43 t328.length co43:Value).ownBlock∧some k_≠(.slice Ao48 t333.length co48:Value).ownBlock∧k_≠gb332) u8 x8_1):=⟨(by rw [hw];exact(Kd.su (Kd.zkk (Kd.S_far (p:=⟨gb332,1,none⟩) (Kd.zkk HO_8.out (fun k_ hk=>(⟨hk,hk.1.2⟩:_∧k_≠gb332))) (fun _ hk=>hk.2) (.slice Ao48 t333.length co48)) (fun _ hk=>⟨hk.1.1.1.2,⟨hk.1.2,hk.1.1.2⟩⟩))))⟩;have n1_:zq (Kd.R k38 38 w50 w.heap.size (fun _=>True) (.slice Ao41 x10_3.length co41) x10_3):=⟨(by rw [hw];exact(Kd.ru (Kd.zqy (Kd.zxt (p:=⟨gb332,1,none⟩) (Kd.zj4 HO_10.out BK332.out (by decide)) (fun _ hk=>hk.2) (.slice Ao48 t333.length co48)) (fun _ hk=>trivial))))⟩;have n2_:zq (Kd.R (Kd.int .u8) 5 w50 w.heap.size (fun k_=>some k_≠(.slice Ao48 t333.length co48:Value).ownBlock) (.slice Ao43 t328.length co43) t328):=⟨(by rw [hw];exact(Kd.ru (Kd.zqy (Kd.zxt (p:=⟨gb332,1,none⟩) (Kd.zj4 HO331.out BK332.out (by decide)) (fun _ hk=>hk.2) (.slice Ao48 t333.length co48)) (fun _ hk=>hk.1.2))))⟩;have n3_:zq (Kd.R (Kd.int .u8) 5 w50 w.heap.size (fun k_=>some k_≠(.slice Ao43 t328.length co43:Value).ownBlock) (.slice Ao48 t333.length co48) t333):=⟨(by rw [hw];exact(Kd.ru (Kd.zqy (Kd.zxt (p:=⟨gb332,1,none⟩) (Kd.zj4 HO336.out BK332.out (by decide)) (fun _ hk=>hk.2) (.slice Ao48 t333.length co48)) (fun _ hk=>hk.1.2))))⟩;have n4_:zq (w50.heap[gb307]? = some (.cells #[.string ((zt l0 a1).f0),.slice A306_1 ((zt l0 a1).f1).length c306_1,.slice A306_2 ((zt l0 a1).f2).length c306_2,.slice A306_3 ((zt l0 a1).f3).length c306_3] 61 (0,0))):=⟨(by rw [hw];exact(by(with_reducible repeat(first|refine zz ?_ _|refine zk ?_|refine zj ?_ _));refine zqf ?_ NB307_332.out _;(with_reducible repeat(first|refine zz ?_ _|refine zk ?_|refine zj ?_ _));exact BK307.out))⟩;have n5_:zq (w50.heap[gb332]? = some (.cells #[.slice Ao43 t328.length co43,.slice Ao48 t333.length co48] 32 (0,0))):=⟨(by rw [hw];exact(by(with_reducible repeat(first|refine zz ?_ _|refine zk ?_|refine zj ?_ _));refine qw (cs:=#[.slice Ao43 t328.length co43,.slice none 0 0]) ?_ 1 _ rfl;(with_reducible repeat(first|refine zz ?_ _|refine zk ?_|refine zj ?_ _));exact BK332.out))⟩;have n6_:zq (Below w.heap.size w w50):=⟨(by rw [hw];exact bw)⟩;clear hw HO_8 HO_10 HO331 HO336 BK307 BK332 HB;have HO_8:=n0_;have HO_10:=n1_;have HO331:=n2_;have HO336:=n3_;have BK307:=n4_;have BK332:=n5_;have HB:=n6_;clear n0_ n1_ n2_ n3_ n4_ n5_ n6_;obtain ⟨hcz51_0,hcz51_1,hfz51_0,hfz51_1⟩:=zji BK332.out)|((with_reducible refine zj7 (b:=.append) (xs:=#[.tmp 86,.tmp 88]) rfl ?_);at_builtin;refine Kd.S_append k32 (w0:=w) w.heap.size rfl (.tmp 86) (.tmp 88) 24 32 (.agg #[(.slice none 0 0),(.slice none 0 0)]) 48 rfl Tryd.underlying24 info32 rfl (by decide) (by omega) u8 x8_1 (⟨t328,t333⟩:S32) [.slice Ao43 t328.length co43,.slice Ao48 t333.length co48] (fun k_=>k_≠gb332) (fun k_=>some k_=(.slice Ao43 t328.length co43:Value).ownBlock∨some k_=(.slice Ao48 t333.length co48:Value).ownBlock) rfl rfl ?aP (fun k_ hk_=>hk_.elim (fun h_=>((Kd.zqy (ok':=fun k_=>((fun k_=>k_≠gb332)) k_∧some k_≠(u8:Value).ownBlock) (Kd.zj4 (Kd.zk1 (HO331.out) (Kd.zkv HO_8.out) (by decide)) BK332.out (by decide)) (fun k_ hk=>⟨hk.2,hk.1.2⟩))).1 k_ h_.symm) (fun h_=>((Kd.zqy (ok':=fun k_=>((fun k_=>k_≠gb332)) k_∧some k_≠(u8:Value).ownBlock) (Kd.zj4 (Kd.zk1 (HO336.out) (Kd.zkv HO_8.out) (by decide)) BK332.out (by decide)) (fun k_ hk=>⟨hk.2,hk.1.2⟩))).1 k_ h_.symm)) ?aF ?aO ?aB ?aS ?aL ?_;(case aP=>exact k32_mkM _ _ _ (⟨t328,t333⟩:S32) (Kd.zqy (Kd.R_tight rfl (Kd.zqy (ok':=fun k_=>((fun k_=>k_≠gb332)) k_∧some k_≠(u8:Value).ownBlock) (Kd.zj4 (Kd.zk1 (HO331.out) (Kd.zkv HO_8.out) (by decide)) BK332.out (by decide)) (fun k_ hk=>⟨hk.2,hk.1.2⟩))) (fun _ h_=>Or.inl h_)) (Kd.zqy (Kd.R_tight rfl (Kd.zqy (ok':=fun k_=>((fun k_=>k_≠gb332)) k_∧some k_≠(u8:Value).ownBlock) (Kd.zj4 (Kd.zk1 (HO336.out) (Kd.zkv HO_8.out) (by decide)) BK332.out (by decide)) (fun k_ hk=>⟨hk.2,hk.1.2⟩))) (fun _ h_=>Or.inr (h_))));(case aB=>exact bw);(case aF=>exact(fun k_ hk=>Kd.zkg (g:=gb332) (o:=.cells #[.slice Ao43 t328.length co43,.slice Ao48 t333.length co48] 32 (0,0)) (up BK332.out) k_ hk));(case aO=>exact(Kd.su (Kd.zkk HO_8.out (fun k_ hk=>⟨hk.2.2,fun e_=>e_.elim (fun h_=>hk.1 h_) (fun h_=>hk.2.1 h_)⟩))));(case aS=>exact(zw bw));(case aL=>have:=LMc40.out;omega);intro v338 w52 ho hb hg hat;rw [← Ny337.out] at ho;replace HO_10:=zq.mk (Kd.R_over' (Kd.ru HO_10.out) (Kd.zkv (Kd.su HO_8.out)) (by decide) hg);replace BK307:=zq.mk (zxk (g:=gb307) (o:=.cells #[.string ((zt l0 a1).f0),.slice A306_1 ((zt l0 a1).f1).length c306_1,.slice A306_2 ((zt l0 a1).f2).length c306_2,.slice A306_3 ((zt l0 a1).f3).length c306_3] 61 (0,0)) (up BK307.out) hg (Kd.S_ne HO_8.out BK307.out (by decide)));replace BK332:=zq.mk (zxk (g:=gb332) (o:=.cells #[.slice Ao43 t328.length co43,.slice Ao48 t333.length co48] 32 (0,0)) (up BK332.out) hg (Kd.S_away HO_8.out (fun _ hk=>hk.2.2)));replace HB:=zq.mk (hb);have HO339:=zq.mk (ho);clear HO_8 HO331 HO336 ho hb hg hat))
            go_roundg k3
            case measure=>have:=HK1.out;have:=HJ10.out;have:=HK3.out;omega
            case rel=>exact⟨(y337),(wrap64 (x9_1+1)),vr,H',⟨by have:=HK1.out;have:=HJ10.out;have:=HK3.out;omega⟩,⟨by(with_reducible repeat(first|apply Kd.zkr|apply Kd.zkq|apply Kd.zvi));exact Kd.zkk HO339.out (fun _ hk=>trivial)⟩,⟨by(with_reducible repeat(first|refine zz ?_ _|refine zk ?_|refine zj ?_ _));exact BK307.out⟩,⟨bw⟩⟩
           rw [if_neg c40] at H
           exact absurd H (by simp)
          rw [if_neg c38] at H
          have c38b0:(x9_1 == 0)=false:=beq_eq_false_iff_ne.mpr c38
          have c38b1:(x9_1 != 0)=true:=bne_iff_ne.mpr c38
          by_cases c53:x8_1.length<2932031007402
          ·rw [if_pos c53] at H
           have LMc53:=zq.mk c53
           clear c53
           obtain ⟨y340,hy340⟩:∃ y_:List (S32),y_=(x8_1 ++ [(⟨t328,([]:List Int)⟩:S32)]):=⟨_,rfl⟩
           replace H:(zp.l0 k3 a1 l2 y340 (wrap64 (x9_1+1)) ((zt l0 a1).f0) ((zt l0 a1).f1) ((zt l0 a1).f2) ((zt l0 a1).f3))=some r:=by first|(rw [hy340];with_reducible exact H)|(have H2_:=(Option.bind_some _ _).symm.trans H;rw [hy340];with_reducible exact H2_)|(have H2_:=(Option.bind_some _ _).symm.trans H;with_reducible exact H2_)|with_reducible exact H|(rw [hy340];exact H)|exact H
           have Ny340:=zq.mk hy340
           clear hy340
           have H':=zq.mk H
           clear H
           obtain ⟨Ao54,co54,eo54⟩:=Kd.zje HO_10.out
           subst eo54
           go_wp2_with (first|((with_reducible refine qh (f:=63) rfl ?_);refine zqn (some 73) rfl rfl Tryd.func63 (by kernel_rfl) rfl #[.slice Ao54 x10_3.length co54] rfl gs ?_;(with_reducible refine(zx.calls k3 _ _ x10_3 t328 t329 _ ?side1 ?side2 A37.out).mono ?_);(case side1=>exact Kd.cu (Kd.zqk HO_10.out).2.2);(case side2=>exact(Kd.zqk HO_10.out).2.1);rintro e w55 ⟨v330,rfl,ho0,hb⟩;refine⟨_,rfl,?_⟩;replace HO_8:=zq.mk (Kd.S_elder' (Kd.su HO_8.out) (Kd.zxh ho0) hb);replace HO_10:=zq.mk (Kd.zq4 (Kd.ru HO_10.out) hb);have HO331:=zq.mk (Kd.zjs ho0 (zw bw));replace BK307:=zq.mk (ze (g:=gb307) (o:=.cells #[.string ((zt l0 a1).f0),.slice A306_1 ((zt l0 a1).f1).length c306_1,.slice A306_2 ((zt l0 a1).f2).length c306_2,.slice A306_3 ((zt l0 a1).f3).length c306_3] 61 (0,0)) (up BK307.out) hb);replace HB:=zq.mk (zn bw hb);(try clear hb);(try clear hb2);(try clear hk);(try clear hi);(try clear ho0);obtain ⟨Ao56,co56,eo56⟩:=Kd.zje HO331.out;subst eo56)|((with_reducible refine qr (N:=17) rfl ?_);refine qm ?hg (N:=17) ?hd (cs:=#[.slice none 0 0,.slice none 0 0]) (t:=32) ?hr ?_;(case hd=>rfl);(case hg=>rfl);(case hr=>first|(go_simp;done)|(go_simp;rfl));intro gb332 hg w57 hbox hb;replace HO_8:=zq.mk (Kd.zx7 (Kd.zvh (Kd.su HO_8.out) gb332 (Nat.le_of_eq hg.symm)) hb);replace HO_10:=zq.mk (Kd.zq4 (Kd.ru HO_10.out) hb);replace HO331:=zq.mk (Kd.zq4 (Kd.ru HO331.out) hb);have BK332:=zq.mk (hbox);have GW332:=zq.mk ((by rw [hg];exact(zw bw):w.heap.size≤gb332));have GE332:=zq.mk ((by rw [hg];exact(zw bw):w.heap.size≤gb332));replace HB:=zq.mk (zn bw hb);have NB307_332:=zq.mk ((by rw [hg];exact Nat.ne_of_lt (zq3 (g:=gb307) (o:=.cells #[.string ((zt l0 a1).f0),.slice A306_1 ((zt l0 a1).f1).length c306_1,.slice A306_2 ((zt l0 a1).f2).length c306_2,.slice A306_3 ((zt l0 a1).f3).length c306_3] 61 (0,0)) (up BK307.out)):gb307≠gb332));have NB332_307:=zq.mk ((by rw [hg];exact Nat.ne_of_gt (zq3 (g:=gb307) (o:=.cells #[.string ((zt l0 a1).f0),.slice A306_1 ((zt l0 a1).f1).length c306_1,.slice A306_2 ((zt l0 a1).f2).length c306_2,.slice A306_3 ((zt l0 a1).f3).length c306_3] 61 (0,0)) (up BK307.out)):gb332≠gb307));replace BK307:=zq.mk (ze (g:=gb307) (o:=.cells #[.string ((zt l0 a1).f0),.slice A306_1 ((zt l0 a1).f1).length c306_1,.slice A306_2 ((zt l0 a1).f2).length c306_2,.slice A306_3 ((zt l0 a1).f3).length c306_3] 61 (0,0)) (up BK307.out) hb);clear hb hbox hg;have hnb58:=NB332_307.out;have hnc58:=NB307_332.out;obtain ⟨hcz59_0,hcz59_1,hfz59_0,hfz59_1⟩:=zji BK332.out)|((with_reducible refine zvk (t:=32) (p:=17) rfl ?_);refine zk5 (t:=32) (p:=17) (v:=?vo_w60) (w1:=((w57.setCell ⟨gb332,0,none⟩ (.slice Ao56 t328.length co56)).setCell ⟨gb332,1,none⟩ (.slice none 0 0))) ?hg ?ho ?hn ?hr ?_;(case ho=>rfl);(case hg=>rfl);(case hn=>rfl);(case hr=>first|(go_simp;done)|(go_simp;rfl));intro w60 hw;have n0_:zq (Kd.S k32 32 w60 w.heap.size (fun k_=>some k_≠(.slice Ao56 t328.length co56:Value).ownBlock∧k_≠gb332) u8 x8_1):=⟨(by rw [hw];exact(Kd.su (Kd.zkk (Kd.S_far (p:=⟨gb332,1,none⟩) (Kd.S_far (p:=⟨gb332,0,none⟩) (Kd.zkk HO_8.out (fun k_ hk=>(⟨hk,hk.2⟩:_∧k_≠gb332))) (fun _ hk=>hk.2) (.slice Ao56 t328.length co56)) (fun _ hk=>hk.2) (.slice none 0 0)) (fun _ hk=>⟨hk.1.1.2,hk.1.2⟩))))⟩;have n1_:zq (Kd.R k38 38 w60 w.heap.size (fun _=>True) (.slice Ao54 x10_3.length co54) x10_3):=⟨(by rw [hw];exact(Kd.ru (Kd.zqy (Kd.zxt (p:=⟨gb332,1,none⟩) (Kd.zxt (p:=⟨gb332,0,none⟩) (Kd.zj4 HO_10.out BK332.out (by decide)) (fun _ hk=>hk.2) (.slice Ao56 t328.length co56)) (fun _ hk=>hk.2) (.slice none 0 0)) (fun _ hk=>trivial))))⟩;have n2_:zq (Kd.R (Kd.int .u8) 5 w60 w.heap.size (fun _=>True) (.slice Ao56 t328.length co56) t328):=⟨(by rw [hw];exact(Kd.ru (Kd.zqy (Kd.zxt (p:=⟨gb332,1,none⟩) (Kd.zxt (p:=⟨gb332,0,none⟩) (Kd.zj4 HO331.out BK332.out (by decide)) (fun _ hk=>hk.2) (.slice Ao56 t328.length co56)) (fun _ hk=>hk.2) (.slice none 0 0)) (fun _ hk=>trivial))))⟩;have n3_:zq (w60.heap[gb307]? = some (.cells #[.string ((zt l0 a1).f0),.slice A306_1 ((zt l0 a1).f1).length c306_1,.slice A306_2 ((zt l0 a1).f2).length c306_2,.slice A306_3 ((zt l0 a1).f3).length c306_3] 61 (0,0))):=⟨(by rw [hw];exact(by(with_reducible repeat(first|refine zz ?_ _|refine zk ?_|refine zj ?_ _));refine zqf ?_ NB307_332.out _;(with_reducible repeat(first|refine zz ?_ _|refine zk ?_|refine zj ?_ _));refine zqf ?_ NB307_332.out _;(with_reducible repeat(first|refine zz ?_ _|refine zk ?_|refine zj ?_ _));exact BK307.out))⟩;have n4_:zq (w60.heap[gb332]? = some (.cells #[.slice Ao56 t328.length co56,.slice none 0 0] 32 (0,0))):=⟨(by rw [hw];exact(by(with_reducible repeat(first|refine zz ?_ _|refine zk ?_|refine zj ?_ _));refine qw (cs:=#[.slice Ao56 t328.length co56,.slice none 0 0]) ?_ 1 _ rfl;(with_reducible repeat(first|refine zz ?_ _|refine zk ?_|refine zj ?_ _));refine qw (cs:=#[.slice none 0 0,.slice none 0 0]) ?_ 0 _ rfl;(with_reducible repeat(first|refine zz ?_ _|refine zk ?_|refine zj ?_ _));exact BK332.out))⟩;have n5_:zq (Below w.heap.size w w60):=⟨(by rw [hw];exact bw)⟩;clear hw HO_8 HO_10 HO331 BK307 BK332 HB;have HO_8:=n0_;have HO_10:=n1_;have HO331:=n2_;have BK307:=n3_;have BK332:=n4_;have HB:=n5_;clear n0_ n1_ n2_ n3_ n4_ n5_;obtain ⟨hcz61_0,hcz61_1,hfz61_0,hfz61_1⟩:=zji BK332.out)|((with_reducible refine zj7 (b:=.append) (xs:=#[.tmp 86,.tmp 88]) rfl ?_);at_builtin;refine Kd.S_append k32 (w0:=w) w.heap.size rfl (.tmp 86) (.tmp 88) 24 32 (.agg #[(.slice none 0 0),(.slice none 0 0)]) 48 rfl Tryd.underlying24 info32 rfl (by decide) (by omega) u8 x8_1 (⟨t328,([]:List Int)⟩:S32) [.slice Ao56 t328.length co56,.slice none 0 0] (fun k_=>k_≠gb332) (fun k_=>some k_=(.slice Ao56 t328.length co56:Value).ownBlock) rfl rfl ?aP (fun k_ hk_=>((Kd.zqy (ok':=fun k_=>((fun k_=>k_≠gb332)) k_∧some k_≠(u8:Value).ownBlock) (Kd.zj4 (Kd.zk1 (HO331.out) (Kd.zkv HO_8.out) (by decide)) BK332.out (by decide)) (fun k_ hk=>⟨hk.2,hk.1.2⟩))).1 k_ hk_.symm) ?aF ?aO ?aB ?aS ?aL ?_;(case aP=>exact k32_mkM _ _ _ (⟨t328,([]:List Int)⟩:S32) (Kd.zqy (Kd.R_tight rfl (Kd.zqy (ok':=fun k_=>((fun k_=>k_≠gb332)) k_∧some k_≠(u8:Value).ownBlock) (Kd.zj4 (Kd.zk1 (HO331.out) (Kd.zkv HO_8.out) (by decide)) BK332.out (by decide)) (fun k_ hk=>⟨hk.2,hk.1.2⟩))) (fun _ h_=>h_)) (Kd.zxf _ _ _ _ _));(case aB=>exact bw);(case aF=>exact(fun k_ hk=>Kd.zkg (g:=gb332) (o:=.cells #[.slice Ao56 t328.length co56,.slice none 0 0] 32 (0,0)) (up BK332.out) k_ hk));(case aO=>exact(Kd.su (Kd.zkk HO_8.out (fun k_ hk=>⟨hk.2,fun e_=>hk.1 e_⟩))));(case aS=>exact(zw bw));(case aL=>have:=LMc53.out;omega);intro v341 w62 ho hb hg hat;rw [← Ny340.out] at ho;replace HO_10:=zq.mk (Kd.R_over' (Kd.ru HO_10.out) (Kd.zkv (Kd.su HO_8.out)) (by decide) hg);replace BK307:=zq.mk (zxk (g:=gb307) (o:=.cells #[.string ((zt l0 a1).f0),.slice A306_1 ((zt l0 a1).f1).length c306_1,.slice A306_2 ((zt l0 a1).f2).length c306_2,.slice A306_3 ((zt l0 a1).f3).length c306_3] 61 (0,0)) (up BK307.out) hg (Kd.S_ne HO_8.out BK307.out (by decide)));replace BK332:=zq.mk (zxk (g:=gb332) (o:=.cells #[.slice Ao56 t328.length co56,.slice none 0 0] 32 (0,0)) (up BK332.out) hg (Kd.S_away HO_8.out (fun _ hk=>hk.2)));replace HB:=zq.mk (hb);have HO342:=zq.mk (ho);clear HO_8 HO331 ho hb hg hat))
           go_roundg k3
           case measure=>have:=HK1.out;have:=HJ10.out;have:=HK3.out;omega
           case rel=>exact⟨(y340),(wrap64 (x9_1+1)),vr,H',⟨by have:=HK1.out;have:=HJ10.out;have:=HK3.out;omega⟩,⟨by(with_reducible repeat(first|apply Kd.zkr|apply Kd.zkq|apply Kd.zvi));exact Kd.zkk HO342.out (fun _ hk=>trivial)⟩,⟨by(with_reducible repeat(first|refine zz ?_ _|refine zk ?_|refine zj ?_ _));exact BK307.out⟩,⟨bw⟩⟩
          rw [if_neg c53] at H
          exact absurd H (by simp)
     rw [if_neg c8] at H
     have c8b0:=decide_eq_false c8
     clear c8
     obtain rfl:=Option.some.inj H
     obtain ⟨hcz63_0,hcz63_1,hcz63_2,hcz63_3,hfz63_0,hfz63_1,hfz63_2,hfz63_3⟩:=zqv BK307.out
     go_wp2
     go_ret
     exact⟨_,by first|rfl|(simp [zg,zy] <;> rfl)|(simp [*,zg,zy] <;> rfl),by(with_reducible repeat(first|apply Kd.zkr|apply Kd.zkq|apply Kd.zvi));exact HO_8.out,bw⟩
  rw [if_neg c5] at H
  exact absurd H (by simp)
 rw [if_neg c4] at H
 exact absurd H (by simp)

end Go.Proofs.YthhejedfjgikdaaDoor.PRowReads
