-- Written by wip/pp of this repo (over the kit's print, with additions of this session); Lean checks every line.
import Derived.Test.YtmfpaeajibeikaaDoorPEvalHoldsx16
namespace Go.Proofs.YtmfpaeajibeikaaDoor.PEvalHolds
open Go.RowKit Go.Proofs.YtmfpaeajibeikaaDoorW.PrintWords Go.Proofs.YtmfpaeajibeikaaDoorW.PrintLast Go.Proofs.YtmfpaeajibeikaaDoorW.PrintMore
attribute [local go_sem] zje zjc zjo zjn zq1 zq0 zjd zjb   -- for this text's walks alone
set_option linter.unusedVariables false
set_option linter.unusedSimpArgs false

/-! ### qn: function 35 -/
def qn.l0:Nat→List (S30)→List (S33)→Int→Int→Option (Bool × Int)
 | 0,_,_,_,_=>none
 | k+1,x1,x12,x13,x14=>if x14<x13 then(if 0≤x14 then(if x14<(x12.length:Int) then((zz.f k ((zg x12 x14).f0) ((zg x12 x14).f1.f0) ((zg x12 x14).f1.f1) ((zg x12 x14).f1.f2) ((zg x12 x14).f2) ((zg x12 x14).f3) ((zg x12 x14).f4) ((zg x12 x14).f5) x1).bind fun bt253=>(if bt253.2.2.2=0 then((qw.f k bt253.1 bt253.2.1 bt253.2.2.1).bind fun bt258=>(if bt258.2=0 then(if bt258.1=2 then(qn.l0 k x1 x12 x13 (wrap64 (x14+1))) else (some (false,0))) else (some (false,bt258.2)))) else (some (false,bt253.2.2.2)))) else (none)) else (none)) else (some (true,0))
def qn.f (k:Nat) (l0:List (S33)) (l1:List (S30)):Option (Bool × Int):=qn.l0 k l1 l0 (l0.length:Int) 0
theorem qn.mono_l:∀ k,(∀ y0 y1 y2 y3,LeO (qn.l0 k y0 y1 y2 y3) (qn.l0 (k+1) y0 y1 y2 y3))
 | 0=>fun _ _ _ _ r h=>by simp [qn.l0] at h
 | k+1=>by
  have ih0:=qn.mono_l k
  intro y0 y1 y2 y3
  unfold qn.l0
  repeat' first
  | (with_reducible first|exact ih0 _ _ _ _|exact qw.mono _ _ _ _|exact zz.mono _ _ _ _ _ _ _ _ _ _|exact LeO.refl _|exact LeO.none _|refine LeO.ite ?_ ?_|refine LeO.bind ?_ (fun _=>?_))
  | exact ih0 _ _ _ _
  | exact qw.mono _ _ _ _
  | exact zz.mono _ _ _ _ _ _ _ _ _ _
  | exact LeO.none _
  | refine LeO.ite ?_ ?_
  | refine LeO.bind ?_ (fun _=>?_)
theorem qn.mono:∀ a0 a1 k,LeO (qn.f k a0 a1) (qn.f (k+1) a0 a1):=by
 intro a0 a1 k
 have ih0:=qn.mono_l k
 unfold qn.f
 repeat' first
   | (with_reducible first|exact ih0 _ _ _ _|exact qw.mono _ _ _ _|exact zz.mono _ _ _ _ _ _ _ _ _ _|exact LeO.refl _|exact LeO.none _|refine LeO.ite ?_ ?_|refine LeO.bind ?_ (fun _=>?_))
   | exact ih0 _ _ _ _
   | exact qw.mono _ _ _ _
   | exact zz.mono _ _ _ _ _ _ _ _ _ _
   | exact LeO.none _
   | refine LeO.ite ?_ ?_
   | refine LeO.bind ?_ (fun _=>?_)
set_option maxHeartbeats 8000000 in
set_option maxRecDepth 100000 in
theorem qn.calls (k:Nat) (A0:Option Addr) (c0:Nat) (l0:List (S33)) (A1:Option Addr) (c1:Nat) (l1:List (S30)) (r1:Bool) (r2:Int) (w:World) (hr0:Kd.C k33 w A0 l0.length l0) (hc0:l0.length≤c0) (hr1:Kd.C k30 w A1 l1.length l1) (hc1:l1.length≤c1) (h:qn.f k l0 l1=some (r1,r2)) :
  Calls Tryd.prog 35 #[.slice A0 l0.length c0,.slice A1 l1.length c1] w fun e w'=>e = .returned (.tuple #[.bool r1,.int .i64 r2])∧Below w.heap.size w w':=by
 have hu33:=Tryd.underlying33
 have hu30:=Tryd.underlying30
 have HR0:=zq.mk hr0
 have HC0:=zq.mk hc0
 clear hr0 hc0
 have HR1:=zq.mk hr1
 have HC1:=zq.mk hc1
 clear hr1 hc1
 have HB:=zq.mk (Below.refl w.heap.size w)
 have H:(qn.l0 k l1 l0 (l0.length:Int) 0)=some (r1,r2):=h
 clear h
 have H':=zq.mk H
 clear H
 go_enter Tryd.func35,Tryd.ntmps35
 go_wp2
 go_loopg [14] k (fun kq v14 w' => ∃ (x14_1:Int),v14 = .int .i64 x14_1∧zq (qn.l0 kq l1 l0 (l0.length:Int) x14_1=some (r1,r2))∧zq (kq≤k)∧zq (Below w.heap.size w w'))
 case atStart=>exact⟨(0),vr,H',⟨Nat.le_refl _⟩,⟨bw⟩⟩
 case round=>
  clear H'
  (try clear c1)
  obtain ⟨x14_1,rfl,HA,HK1,HB⟩:=hrel
  cases gk with
  | zero=>exact absurd HA.out (by simp [qn.l0])
  | succ k1=>
   have H:=HA.out
   clear HA
   simp only [qn.l0] at H
   by_cases c3:x14_1<(l0.length:Int)
   ·rw [if_pos c3] at H
    have c3b0:=decide_eq_true c3
    clear c3
    by_cases c4:0≤x14_1
    ·rw [if_pos c4] at H
     have c4b0:=decide_eq_true c4
     clear c4
     by_cases c5:x14_1<(l0.length:Int)
     ·rw [if_pos c5] at H
      have c5b0:=decide_eq_true c5
      clear c5
      replace H:=Option.bind_eq_some_iff.mp H
      obtain ⟨⟨t253,t254,t255,t256⟩,A60,H⟩:=H
      replace H:(if t256=0 then((qw.f k1 t253 t254 t255).bind fun bt258=>(if bt258.2=0 then(if bt258.1=2 then(qn.l0 k1 l1 l0 (l0.length:Int) (wrap64 (x14_1+1))) else (some (false,0))) else (some (false,bt258.2)))) else (some (false,t256)))=some (r1,r2):=H
      have A6:=zq.mk A60
      clear A60
      by_cases c7:t256=0
      ·rw [if_pos c7] at H
       have c7b0:(t256 == 0)=true:=beq_iff_eq.mpr c7
       have c7b1:(t256 != 0)=false:=bne_eq_false_iff_eq.mpr c7
       clear c7
       replace H:=Option.bind_eq_some_iff.mp H
       obtain ⟨⟨t258,t259⟩,A80,H⟩:=H
       replace H:(if t259=0 then(if t258=2 then(qn.l0 k1 l1 l0 (l0.length:Int) (wrap64 (x14_1+1))) else (some (false,0))) else (some (false,t259)))=some (r1,r2):=H
       have A8:=zq.mk A80
       clear A80
       by_cases c9:t259=0
       ·rw [if_pos c9] at H
        have c9b0:(t259 == 0)=true:=beq_iff_eq.mpr c9
        have c9b1:(t259 != 0)=false:=bne_eq_false_iff_eq.mpr c9
        clear c9
        by_cases c10:t258=2
        ·rw [if_pos c10] at H
         have c10b0:(t258 == 2)=true:=beq_iff_eq.mpr c10
         have c10b1:(t258 != 2)=false:=bne_eq_false_iff_eq.mpr c10
         clear c10
         have H':=zq.mk H
         clear H
         have p251:0≤(x14_1:Int):=dt
         have q251:x14_1<(l0.length:Int):=dt
         obtain ⟨ad251,A251_7,c251_7,e251,hx251_0,hx251_1,hx251_2,hx251_3,hx251_4,hx251_5,hx251_6,hx251_7,hl251_7,hi251_7⟩:=zxc HR0.out x14_1 p251 q251
         cases e251
         replace hx251_0:=(HB.out.cell (World.block_lt_of_cell? w _ hx251_0)).trans hx251_0
         replace hx251_1:=(HB.out.cell (World.block_lt_of_cell? w _ hx251_1)).trans hx251_1
         replace hx251_2:=(HB.out.cell (World.block_lt_of_cell? w _ hx251_2)).trans hx251_2
         replace hx251_3:=(HB.out.cell (World.block_lt_of_cell? w _ hx251_3)).trans hx251_3
         replace hx251_4:=(HB.out.cell (World.block_lt_of_cell? w _ hx251_4)).trans hx251_4
         replace hx251_5:=(HB.out.cell (World.block_lt_of_cell? w _ hx251_5)).trans hx251_5
         replace hx251_6:=(HB.out.cell (World.block_lt_of_cell? w _ hx251_6)).trans hx251_6
         replace hx251_7:=(HB.out.cell (World.block_lt_of_cell? w _ hx251_7)).trans hx251_7
         have HR251_7:=zq.mk hi251_7
         have HC251_7:=zq.mk hl251_7
         clear hi251_7 hl251_7
         replace p251:=eq_true p251
         replace q251:=eq_true q251
         go_wp2_with (first|((with_reducible refine ql (N:=7) rfl ?_);refine qh ?hg (N:=7) ?hd (cs:=#[.int .i64 0,.int .i64 0,.int .i64 0,.string (⟨#[]⟩:ByteArray),.string (⟨#[]⟩:ByteArray),.string (⟨#[]⟩:ByteArray),.int .i64 0,.slice none 0 0]) (t:=33) ?hr ?_;(case hd=>rfl);(case hg=>rfl);(case hr=>first|(go_simp;done)|(go_simp;rfl));intro gb252 hg w11 hbox hb;have BK252:=zq.mk (hbox);have GW252:=zq.mk ((by rw [hg];exact(zv bw):w.heap.size≤gb252));have GE252:=zq.mk ((by rw [hg];exact(zv bw):w.heap.size≤gb252));replace HB:=zq.mk (zb bw hb);clear hb hbox hg;obtain ⟨hcz12_0,hcz12_1,hcz12_2,hcz12_3,hcz12_4,hcz12_5,hcz12_6,hcz12_7,hfz12_0,hfz12_1,hfz12_2,hfz12_3,hfz12_4,hfz12_5,hfz12_6,hfz12_7⟩:=zql BK252.out)|((with_reducible refine zs (f:=52) rfl ?_);refine qo (some 21) rfl rfl Tryd.func52 (by kernel_rfl) rfl #[.agg #[.int .i64 ((zg l0 x14_1).f0),.int .i64 ((zg l0 x14_1).f1.f0),.int .i64 ((zg l0 x14_1).f1.f1),.string ((zg l0 x14_1).f1.f2),.string ((zg l0 x14_1).f2),.string ((zg l0 x14_1).f3),.int .i64 ((zg l0 x14_1).f4),.slice A251_7 ((zg l0 x14_1).f5).length c251_7],.slice A1 l1.length c1] rfl gs ?_;(with_reducible refine(zz.calls k1 ((zg l0 x14_1).f0) ((zg l0 x14_1).f1.f0) ((zg l0 x14_1).f1.f1) ((zg l0 x14_1).f1.f2) ((zg l0 x14_1).f2) ((zg l0 x14_1).f3) ((zg l0 x14_1).f4) _ _ ((zg l0 x14_1).f5) _ _ l1 t253 t254 t255 t256 _ ?side1 ?side2 ?side3 ?side4 A6.out).mono ?_);(case side1=>exact Kd.zqe HR251_7.out bw);(case side2=>exact HC251_7.out);(case side3=>exact Kd.zqe HR1.out bw);(case side4=>exact HC1.out);rintro e w13 ⟨rfl,hb⟩;refine⟨_,rfl,?_⟩;replace BK252:=zq.mk (zf (g:=gb252) (o:=.cells #[.int .i64 ((zg l0 x14_1).f0),.int .i64 ((zg l0 x14_1).f1.f0),.int .i64 ((zg l0 x14_1).f1.f1),.string ((zg l0 x14_1).f1.f2),.string ((zg l0 x14_1).f2),.string ((zg l0 x14_1).f3),.int .i64 ((zg l0 x14_1).f4),.slice A251_7 ((zg l0 x14_1).f5).length c251_7] 33 (0,0)) (by(with_reducible repeat(first|refine zn ?_ _|refine zt ?_|refine zy ?_ _));refine zl (cs:=#[.int .i64 ((zg l0 x14_1).f0),.int .i64 ((zg l0 x14_1).f1.f0),.int .i64 ((zg l0 x14_1).f1.f1),.string ((zg l0 x14_1).f1.f2),.string ((zg l0 x14_1).f2),.string ((zg l0 x14_1).f3),.int .i64 ((zg l0 x14_1).f4),.slice none 0 0]) ?_ 7 _ rfl;(with_reducible repeat(first|refine zn ?_ _|refine zt ?_|refine zy ?_ _));refine zl (cs:=#[.int .i64 ((zg l0 x14_1).f0),.int .i64 ((zg l0 x14_1).f1.f0),.int .i64 ((zg l0 x14_1).f1.f1),.string ((zg l0 x14_1).f1.f2),.string ((zg l0 x14_1).f2),.string ((zg l0 x14_1).f3),.int .i64 0,.slice none 0 0]) ?_ 6 _ rfl;(with_reducible repeat(first|refine zn ?_ _|refine zt ?_|refine zy ?_ _));refine zl (cs:=#[.int .i64 ((zg l0 x14_1).f0),.int .i64 ((zg l0 x14_1).f1.f0),.int .i64 ((zg l0 x14_1).f1.f1),.string ((zg l0 x14_1).f1.f2),.string ((zg l0 x14_1).f2),.string (⟨#[]⟩:ByteArray),.int .i64 0,.slice none 0 0]) ?_ 5 _ rfl;(with_reducible repeat(first|refine zn ?_ _|refine zt ?_|refine zy ?_ _));refine zl (cs:=#[.int .i64 ((zg l0 x14_1).f0),.int .i64 ((zg l0 x14_1).f1.f0),.int .i64 ((zg l0 x14_1).f1.f1),.string ((zg l0 x14_1).f1.f2),.string (⟨#[]⟩:ByteArray),.string (⟨#[]⟩:ByteArray),.int .i64 0,.slice none 0 0]) ?_ 4 _ rfl;(with_reducible repeat(first|refine zn ?_ _|refine zt ?_|refine zy ?_ _));refine zl (cs:=#[.int .i64 ((zg l0 x14_1).f0),.int .i64 ((zg l0 x14_1).f1.f0),.int .i64 ((zg l0 x14_1).f1.f1),.string (⟨#[]⟩:ByteArray),.string (⟨#[]⟩:ByteArray),.string (⟨#[]⟩:ByteArray),.int .i64 0,.slice none 0 0]) ?_ 3 _ rfl;(with_reducible repeat(first|refine zn ?_ _|refine zt ?_|refine zy ?_ _));refine zl (cs:=#[.int .i64 ((zg l0 x14_1).f0),.int .i64 ((zg l0 x14_1).f1.f0),.int .i64 0,.string (⟨#[]⟩:ByteArray),.string (⟨#[]⟩:ByteArray),.string (⟨#[]⟩:ByteArray),.int .i64 0,.slice none 0 0]) ?_ 2 _ rfl;(with_reducible repeat(first|refine zn ?_ _|refine zt ?_|refine zy ?_ _));refine zl (cs:=#[.int .i64 ((zg l0 x14_1).f0),.int .i64 0,.int .i64 0,.string (⟨#[]⟩:ByteArray),.string (⟨#[]⟩:ByteArray),.string (⟨#[]⟩:ByteArray),.int .i64 0,.slice none 0 0]) ?_ 1 _ rfl;(with_reducible repeat(first|refine zn ?_ _|refine zt ?_|refine zy ?_ _));refine zl (cs:=#[.int .i64 0,.int .i64 0,.int .i64 0,.string (⟨#[]⟩:ByteArray),.string (⟨#[]⟩:ByteArray),.string (⟨#[]⟩:ByteArray),.int .i64 0,.slice none 0 0]) ?_ 0 _ rfl;(with_reducible repeat(first|refine zn ?_ _|refine zt ?_|refine zy ?_ _));exact BK252.out) hb);replace HB:=zq.mk (zb bw hb);(try clear hb);(try clear hb2);(try clear hk);(try clear hi))|((with_reducible refine ql (N:=8) rfl ?_);refine qh ?hg (N:=8) ?hd (cs:=#[.int .i64 0,.int .i64 0,.string (⟨#[]⟩:ByteArray)]) (t:=30) ?hr ?_;(case hd=>rfl);(case hg=>rfl);(case hr=>first|(go_simp;done)|(go_simp;rfl));intro gb257 hg w14 hbox hb;have BK257:=zq.mk (hbox);have GW257:=zq.mk ((by rw [hg];exact(zv bw):w.heap.size≤gb257));have GE257:=zq.mk ((by rw [hg];exact(zv bw):w.heap.size≤gb257));replace HB:=zq.mk (zb bw hb);have NB252_257:=zq.mk ((by rw [hg];exact Nat.ne_of_lt (qf (g:=gb252) (o:=.cells #[.int .i64 ((zg l0 x14_1).f0),.int .i64 ((zg l0 x14_1).f1.f0),.int .i64 ((zg l0 x14_1).f1.f1),.string ((zg l0 x14_1).f1.f2),.string ((zg l0 x14_1).f2),.string ((zg l0 x14_1).f3),.int .i64 ((zg l0 x14_1).f4),.slice A251_7 ((zg l0 x14_1).f5).length c251_7] 33 (0,0)) (up BK252.out)):gb252≠gb257));have NB257_252:=zq.mk ((by rw [hg];exact Nat.ne_of_gt (qf (g:=gb252) (o:=.cells #[.int .i64 ((zg l0 x14_1).f0),.int .i64 ((zg l0 x14_1).f1.f0),.int .i64 ((zg l0 x14_1).f1.f1),.string ((zg l0 x14_1).f1.f2),.string ((zg l0 x14_1).f2),.string ((zg l0 x14_1).f3),.int .i64 ((zg l0 x14_1).f4),.slice A251_7 ((zg l0 x14_1).f5).length c251_7] 33 (0,0)) (up BK252.out)):gb257≠gb252));replace BK252:=zq.mk (zf (g:=gb252) (o:=.cells #[.int .i64 ((zg l0 x14_1).f0),.int .i64 ((zg l0 x14_1).f1.f0),.int .i64 ((zg l0 x14_1).f1.f1),.string ((zg l0 x14_1).f1.f2),.string ((zg l0 x14_1).f2),.string ((zg l0 x14_1).f3),.int .i64 ((zg l0 x14_1).f4),.slice A251_7 ((zg l0 x14_1).f5).length c251_7] 33 (0,0)) (up BK252.out) hb);clear hb hbox hg;have hnb15:=NB257_252.out;have hnc15:=NB252_257.out;obtain ⟨hcz16_0,hcz16_1,hcz16_2,hfz16_0,hfz16_1,hfz16_2⟩:=zr BK257.out)|((with_reducible refine zs (f:=53) rfl ?_);refine qo (some 29) rfl rfl Tryd.func53 (by kernel_rfl) rfl #[.agg #[.int .i64 t253,.int .i64 t254,.string t255]] rfl gs ?_;(with_reducible refine(qw.calls k1 t253 t254 t255 t258 t259 _ A8.out).mono ?_);rintro e w17 ⟨rfl,hb⟩;refine⟨_,rfl,?_⟩;replace BK252:=zq.mk (zf (g:=gb252) (o:=.cells #[.int .i64 ((zg l0 x14_1).f0),.int .i64 ((zg l0 x14_1).f1.f0),.int .i64 ((zg l0 x14_1).f1.f1),.string ((zg l0 x14_1).f1.f2),.string ((zg l0 x14_1).f2),.string ((zg l0 x14_1).f3),.int .i64 ((zg l0 x14_1).f4),.slice A251_7 ((zg l0 x14_1).f5).length c251_7] 33 (0,0)) (by(with_reducible repeat(first|refine zn ?_ _|refine zt ?_|refine zy ?_ _));refine zqv ?_ NB252_257.out _;(with_reducible repeat(first|refine zn ?_ _|refine zt ?_|refine zy ?_ _));refine zqv ?_ NB252_257.out _;(with_reducible repeat(first|refine zn ?_ _|refine zt ?_|refine zy ?_ _));refine zqv ?_ NB252_257.out _;(with_reducible repeat(first|refine zn ?_ _|refine zt ?_|refine zy ?_ _));exact BK252.out) hb);replace BK257:=zq.mk (zf (g:=gb257) (o:=.cells #[.int .i64 t253,.int .i64 t254,.string t255] 30 (0,0)) (by(with_reducible repeat(first|refine zn ?_ _|refine zt ?_|refine zy ?_ _));refine zl (cs:=#[.int .i64 t253,.int .i64 t254,.string (⟨#[]⟩:ByteArray)]) ?_ 2 _ rfl;(with_reducible repeat(first|refine zn ?_ _|refine zt ?_|refine zy ?_ _));refine zl (cs:=#[.int .i64 t253,.int .i64 0,.string (⟨#[]⟩:ByteArray)]) ?_ 1 _ rfl;(with_reducible repeat(first|refine zn ?_ _|refine zt ?_|refine zy ?_ _));refine zl (cs:=#[.int .i64 0,.int .i64 0,.string (⟨#[]⟩:ByteArray)]) ?_ 0 _ rfl;(with_reducible repeat(first|refine zn ?_ _|refine zt ?_|refine zy ?_ _));exact BK257.out) hb);replace HB:=zq.mk (zb bw hb);(try clear hb);(try clear hb2);(try clear hk);(try clear hi)))
         go_roundg k1
         case measure=>have:=HK1.out;omega
         case rel=>exact⟨(wrap64 (x14_1+1)),vr,H',⟨by have:=HK1.out;omega⟩,⟨bw⟩⟩
        rw [if_neg c10] at H
        have c10b0:(t258 == 2)=false:=beq_eq_false_iff_ne.mpr c10
        have c10b1:(t258 != 2)=true:=bne_iff_ne.mpr c10
        simp only [Option.some.injEq,Prod.mk.injEq] at H
        obtain ⟨rfl,rfl⟩:=H
        have p251:0≤(x14_1:Int):=dt
        have q251:x14_1<(l0.length:Int):=dt
        obtain ⟨ad251,A251_7,c251_7,e251,hx251_0,hx251_1,hx251_2,hx251_3,hx251_4,hx251_5,hx251_6,hx251_7,hl251_7,hi251_7⟩:=zxc HR0.out x14_1 p251 q251
        cases e251
        replace hx251_0:=(HB.out.cell (World.block_lt_of_cell? w _ hx251_0)).trans hx251_0
        replace hx251_1:=(HB.out.cell (World.block_lt_of_cell? w _ hx251_1)).trans hx251_1
        replace hx251_2:=(HB.out.cell (World.block_lt_of_cell? w _ hx251_2)).trans hx251_2
        replace hx251_3:=(HB.out.cell (World.block_lt_of_cell? w _ hx251_3)).trans hx251_3
        replace hx251_4:=(HB.out.cell (World.block_lt_of_cell? w _ hx251_4)).trans hx251_4
        replace hx251_5:=(HB.out.cell (World.block_lt_of_cell? w _ hx251_5)).trans hx251_5
        replace hx251_6:=(HB.out.cell (World.block_lt_of_cell? w _ hx251_6)).trans hx251_6
        replace hx251_7:=(HB.out.cell (World.block_lt_of_cell? w _ hx251_7)).trans hx251_7
        have HR251_7:=zq.mk hi251_7
        have HC251_7:=zq.mk hl251_7
        clear hi251_7 hl251_7
        replace p251:=eq_true p251
        replace q251:=eq_true q251
        go_wp2_with (first|((with_reducible refine ql (N:=7) rfl ?_);refine qh ?hg (N:=7) ?hd (cs:=#[.int .i64 0,.int .i64 0,.int .i64 0,.string (⟨#[]⟩:ByteArray),.string (⟨#[]⟩:ByteArray),.string (⟨#[]⟩:ByteArray),.int .i64 0,.slice none 0 0]) (t:=33) ?hr ?_;(case hd=>rfl);(case hg=>rfl);(case hr=>first|(go_simp;done)|(go_simp;rfl));intro gb252 hg w18 hbox hb;have BK252:=zq.mk (hbox);have GW252:=zq.mk ((by rw [hg];exact(zv bw):w.heap.size≤gb252));have GE252:=zq.mk ((by rw [hg];exact(zv bw):w.heap.size≤gb252));replace HB:=zq.mk (zb bw hb);clear hb hbox hg;obtain ⟨hcz19_0,hcz19_1,hcz19_2,hcz19_3,hcz19_4,hcz19_5,hcz19_6,hcz19_7,hfz19_0,hfz19_1,hfz19_2,hfz19_3,hfz19_4,hfz19_5,hfz19_6,hfz19_7⟩:=zql BK252.out)|((with_reducible refine zs (f:=52) rfl ?_);refine qo (some 21) rfl rfl Tryd.func52 (by kernel_rfl) rfl #[.agg #[.int .i64 ((zg l0 x14_1).f0),.int .i64 ((zg l0 x14_1).f1.f0),.int .i64 ((zg l0 x14_1).f1.f1),.string ((zg l0 x14_1).f1.f2),.string ((zg l0 x14_1).f2),.string ((zg l0 x14_1).f3),.int .i64 ((zg l0 x14_1).f4),.slice A251_7 ((zg l0 x14_1).f5).length c251_7],.slice A1 l1.length c1] rfl gs ?_;(with_reducible refine(zz.calls k1 ((zg l0 x14_1).f0) ((zg l0 x14_1).f1.f0) ((zg l0 x14_1).f1.f1) ((zg l0 x14_1).f1.f2) ((zg l0 x14_1).f2) ((zg l0 x14_1).f3) ((zg l0 x14_1).f4) _ _ ((zg l0 x14_1).f5) _ _ l1 t253 t254 t255 t256 _ ?side1 ?side2 ?side3 ?side4 A6.out).mono ?_);(case side1=>exact Kd.zqe HR251_7.out bw);(case side2=>exact HC251_7.out);(case side3=>exact Kd.zqe HR1.out bw);(case side4=>exact HC1.out);rintro e w20 ⟨rfl,hb⟩;refine⟨_,rfl,?_⟩;replace BK252:=zq.mk (zf (g:=gb252) (o:=.cells #[.int .i64 ((zg l0 x14_1).f0),.int .i64 ((zg l0 x14_1).f1.f0),.int .i64 ((zg l0 x14_1).f1.f1),.string ((zg l0 x14_1).f1.f2),.string ((zg l0 x14_1).f2),.string ((zg l0 x14_1).f3),.int .i64 ((zg l0 x14_1).f4),.slice A251_7 ((zg l0 x14_1).f5).length c251_7] 33 (0,0)) (by(with_reducible repeat(first|refine zn ?_ _|refine zt ?_|refine zy ?_ _));refine zl (cs:=#[.int .i64 ((zg l0 x14_1).f0),.int .i64 ((zg l0 x14_1).f1.f0),.int .i64 ((zg l0 x14_1).f1.f1),.string ((zg l0 x14_1).f1.f2),.string ((zg l0 x14_1).f2),.string ((zg l0 x14_1).f3),.int .i64 ((zg l0 x14_1).f4),.slice none 0 0]) ?_ 7 _ rfl;(with_reducible repeat(first|refine zn ?_ _|refine zt ?_|refine zy ?_ _));refine zl (cs:=#[.int .i64 ((zg l0 x14_1).f0),.int .i64 ((zg l0 x14_1).f1.f0),.int .i64 ((zg l0 x14_1).f1.f1),.string ((zg l0 x14_1).f1.f2),.string ((zg l0 x14_1).f2),.string ((zg l0 x14_1).f3),.int .i64 0,.slice none 0 0]) ?_ 6 _ rfl;(with_reducible repeat(first|refine zn ?_ _|refine zt ?_|refine zy ?_ _));refine zl (cs:=#[.int .i64 ((zg l0 x14_1).f0),.int .i64 ((zg l0 x14_1).f1.f0),.int .i64 ((zg l0 x14_1).f1.f1),.string ((zg l0 x14_1).f1.f2),.string ((zg l0 x14_1).f2),.string (⟨#[]⟩:ByteArray),.int .i64 0,.slice none 0 0]) ?_ 5 _ rfl;(with_reducible repeat(first|refine zn ?_ _|refine zt ?_|refine zy ?_ _));refine zl (cs:=#[.int .i64 ((zg l0 x14_1).f0),.int .i64 ((zg l0 x14_1).f1.f0),.int .i64 ((zg l0 x14_1).f1.f1),.string ((zg l0 x14_1).f1.f2),.string (⟨#[]⟩:ByteArray),.string (⟨#[]⟩:ByteArray),.int .i64 0,.slice none 0 0]) ?_ 4 _ rfl;(with_reducible repeat(first|refine zn ?_ _|refine zt ?_|refine zy ?_ _));refine zl (cs:=#[.int .i64 ((zg l0 x14_1).f0),.int .i64 ((zg l0 x14_1).f1.f0),.int .i64 ((zg l0 x14_1).f1.f1),.string (⟨#[]⟩:ByteArray),.string (⟨#[]⟩:ByteArray),.string (⟨#[]⟩:ByteArray),.int .i64 0,.slice none 0 0]) ?_ 3 _ rfl;(with_reducible repeat(first|refine zn ?_ _|refine zt ?_|refine zy ?_ _));refine zl (cs:=#[.int .i64 ((zg l0 x14_1).f0),.int .i64 ((zg l0 x14_1).f1.f0),.int .i64 0,.string (⟨#[]⟩:ByteArray),.string (⟨#[]⟩:ByteArray),.string (⟨#[]⟩:ByteArray),.int .i64 0,.slice none 0 0]) ?_ 2 _ rfl;(with_reducible repeat(first|refine zn ?_ _|refine zt ?_|refine zy ?_ _));refine zl (cs:=#[.int .i64 ((zg l0 x14_1).f0),.int .i64 0,.int .i64 0,.string (⟨#[]⟩:ByteArray),.string (⟨#[]⟩:ByteArray),.string (⟨#[]⟩:ByteArray),.int .i64 0,.slice none 0 0]) ?_ 1 _ rfl;(with_reducible repeat(first|refine zn ?_ _|refine zt ?_|refine zy ?_ _));refine zl (cs:=#[.int .i64 0,.int .i64 0,.int .i64 0,.string (⟨#[]⟩:ByteArray),.string (⟨#[]⟩:ByteArray),.string (⟨#[]⟩:ByteArray),.int .i64 0,.slice none 0 0]) ?_ 0 _ rfl;(with_reducible repeat(first|refine zn ?_ _|refine zt ?_|refine zy ?_ _));exact BK252.out) hb);replace HB:=zq.mk (zb bw hb);(try clear hb);(try clear hb2);(try clear hk);(try clear hi))|((with_reducible refine ql (N:=8) rfl ?_);refine qh ?hg (N:=8) ?hd (cs:=#[.int .i64 0,.int .i64 0,.string (⟨#[]⟩:ByteArray)]) (t:=30) ?hr ?_;(case hd=>rfl);(case hg=>rfl);(case hr=>first|(go_simp;done)|(go_simp;rfl));intro gb257 hg w21 hbox hb;have BK257:=zq.mk (hbox);have GW257:=zq.mk ((by rw [hg];exact(zv bw):w.heap.size≤gb257));have GE257:=zq.mk ((by rw [hg];exact(zv bw):w.heap.size≤gb257));replace HB:=zq.mk (zb bw hb);have NB252_257:=zq.mk ((by rw [hg];exact Nat.ne_of_lt (qf (g:=gb252) (o:=.cells #[.int .i64 ((zg l0 x14_1).f0),.int .i64 ((zg l0 x14_1).f1.f0),.int .i64 ((zg l0 x14_1).f1.f1),.string ((zg l0 x14_1).f1.f2),.string ((zg l0 x14_1).f2),.string ((zg l0 x14_1).f3),.int .i64 ((zg l0 x14_1).f4),.slice A251_7 ((zg l0 x14_1).f5).length c251_7] 33 (0,0)) (up BK252.out)):gb252≠gb257));have NB257_252:=zq.mk ((by rw [hg];exact Nat.ne_of_gt (qf (g:=gb252) (o:=.cells #[.int .i64 ((zg l0 x14_1).f0),.int .i64 ((zg l0 x14_1).f1.f0),.int .i64 ((zg l0 x14_1).f1.f1),.string ((zg l0 x14_1).f1.f2),.string ((zg l0 x14_1).f2),.string ((zg l0 x14_1).f3),.int .i64 ((zg l0 x14_1).f4),.slice A251_7 ((zg l0 x14_1).f5).length c251_7] 33 (0,0)) (up BK252.out)):gb257≠gb252));replace BK252:=zq.mk (zf (g:=gb252) (o:=.cells #[.int .i64 ((zg l0 x14_1).f0),.int .i64 ((zg l0 x14_1).f1.f0),.int .i64 ((zg l0 x14_1).f1.f1),.string ((zg l0 x14_1).f1.f2),.string ((zg l0 x14_1).f2),.string ((zg l0 x14_1).f3),.int .i64 ((zg l0 x14_1).f4),.slice A251_7 ((zg l0 x14_1).f5).length c251_7] 33 (0,0)) (up BK252.out) hb);clear hb hbox hg;have hnb22:=NB257_252.out;have hnc22:=NB252_257.out;obtain ⟨hcz23_0,hcz23_1,hcz23_2,hfz23_0,hfz23_1,hfz23_2⟩:=zr BK257.out)|((with_reducible refine zs (f:=53) rfl ?_);refine qo (some 29) rfl rfl Tryd.func53 (by kernel_rfl) rfl #[.agg #[.int .i64 t253,.int .i64 t254,.string t255]] rfl gs ?_;(with_reducible refine(qw.calls k1 t253 t254 t255 t258 t259 _ A8.out).mono ?_);rintro e w24 ⟨rfl,hb⟩;refine⟨_,rfl,?_⟩;replace BK252:=zq.mk (zf (g:=gb252) (o:=.cells #[.int .i64 ((zg l0 x14_1).f0),.int .i64 ((zg l0 x14_1).f1.f0),.int .i64 ((zg l0 x14_1).f1.f1),.string ((zg l0 x14_1).f1.f2),.string ((zg l0 x14_1).f2),.string ((zg l0 x14_1).f3),.int .i64 ((zg l0 x14_1).f4),.slice A251_7 ((zg l0 x14_1).f5).length c251_7] 33 (0,0)) (by(with_reducible repeat(first|refine zn ?_ _|refine zt ?_|refine zy ?_ _));refine zqv ?_ NB252_257.out _;(with_reducible repeat(first|refine zn ?_ _|refine zt ?_|refine zy ?_ _));refine zqv ?_ NB252_257.out _;(with_reducible repeat(first|refine zn ?_ _|refine zt ?_|refine zy ?_ _));refine zqv ?_ NB252_257.out _;(with_reducible repeat(first|refine zn ?_ _|refine zt ?_|refine zy ?_ _));exact BK252.out) hb);replace BK257:=zq.mk (zf (g:=gb257) (o:=.cells #[.int .i64 t253,.int .i64 t254,.string t255] 30 (0,0)) (by(with_reducible repeat(first|refine zn ?_ _|refine zt ?_|refine zy ?_ _));refine zl (cs:=#[.int .i64 t253,.int .i64 t254,.string (⟨#[]⟩:ByteArray)]) ?_ 2 _ rfl;(with_reducible repeat(first|refine zn ?_ _|refine zt ?_|refine zy ?_ _));refine zl (cs:=#[.int .i64 t253,.int .i64 0,.string (⟨#[]⟩:ByteArray)]) ?_ 1 _ rfl;(with_reducible repeat(first|refine zn ?_ _|refine zt ?_|refine zy ?_ _));refine zl (cs:=#[.int .i64 0,.int .i64 0,.string (⟨#[]⟩:ByteArray)]) ?_ 0 _ rfl;(with_reducible repeat(first|refine zn ?_ _|refine zt ?_|refine zy ?_ _));exact BK257.out) hb);replace HB:=zq.mk (zb bw hb);(try clear hb);(try clear hb2);(try clear hk);(try clear hi)))
        go_ret2
        exact⟨by first|rfl|(simp [zk,zx] <;> rfl)|(simp [*,zk,zx] <;> rfl),bw⟩
       rw [if_neg c9] at H
       have c9b0:(t259 == 0)=false:=beq_eq_false_iff_ne.mpr c9
       have c9b1:(t259 != 0)=true:=bne_iff_ne.mpr c9
       simp only [Option.some.injEq,Prod.mk.injEq] at H
       obtain ⟨rfl,rfl⟩:=H
       have p251:0≤(x14_1:Int):=dt
       have q251:x14_1<(l0.length:Int):=dt
       obtain ⟨ad251,A251_7,c251_7,e251,hx251_0,hx251_1,hx251_2,hx251_3,hx251_4,hx251_5,hx251_6,hx251_7,hl251_7,hi251_7⟩:=zxc HR0.out x14_1 p251 q251
       cases e251
       replace hx251_0:=(HB.out.cell (World.block_lt_of_cell? w _ hx251_0)).trans hx251_0
       replace hx251_1:=(HB.out.cell (World.block_lt_of_cell? w _ hx251_1)).trans hx251_1
       replace hx251_2:=(HB.out.cell (World.block_lt_of_cell? w _ hx251_2)).trans hx251_2
       replace hx251_3:=(HB.out.cell (World.block_lt_of_cell? w _ hx251_3)).trans hx251_3
       replace hx251_4:=(HB.out.cell (World.block_lt_of_cell? w _ hx251_4)).trans hx251_4
       replace hx251_5:=(HB.out.cell (World.block_lt_of_cell? w _ hx251_5)).trans hx251_5
       replace hx251_6:=(HB.out.cell (World.block_lt_of_cell? w _ hx251_6)).trans hx251_6
       replace hx251_7:=(HB.out.cell (World.block_lt_of_cell? w _ hx251_7)).trans hx251_7
       have HR251_7:=zq.mk hi251_7
       have HC251_7:=zq.mk hl251_7
       clear hi251_7 hl251_7
       replace p251:=eq_true p251
       replace q251:=eq_true q251
       go_wp2_with (first|((with_reducible refine ql (N:=7) rfl ?_);refine qh ?hg (N:=7) ?hd (cs:=#[.int .i64 0,.int .i64 0,.int .i64 0,.string (⟨#[]⟩:ByteArray),.string (⟨#[]⟩:ByteArray),.string (⟨#[]⟩:ByteArray),.int .i64 0,.slice none 0 0]) (t:=33) ?hr ?_;(case hd=>rfl);(case hg=>rfl);(case hr=>first|(go_simp;done)|(go_simp;rfl));intro gb252 hg w25 hbox hb;have BK252:=zq.mk (hbox);have GW252:=zq.mk ((by rw [hg];exact(zv bw):w.heap.size≤gb252));have GE252:=zq.mk ((by rw [hg];exact(zv bw):w.heap.size≤gb252));replace HB:=zq.mk (zb bw hb);clear hb hbox hg;obtain ⟨hcz26_0,hcz26_1,hcz26_2,hcz26_3,hcz26_4,hcz26_5,hcz26_6,hcz26_7,hfz26_0,hfz26_1,hfz26_2,hfz26_3,hfz26_4,hfz26_5,hfz26_6,hfz26_7⟩:=zql BK252.out)|((with_reducible refine zs (f:=52) rfl ?_);refine qo (some 21) rfl rfl Tryd.func52 (by kernel_rfl) rfl #[.agg #[.int .i64 ((zg l0 x14_1).f0),.int .i64 ((zg l0 x14_1).f1.f0),.int .i64 ((zg l0 x14_1).f1.f1),.string ((zg l0 x14_1).f1.f2),.string ((zg l0 x14_1).f2),.string ((zg l0 x14_1).f3),.int .i64 ((zg l0 x14_1).f4),.slice A251_7 ((zg l0 x14_1).f5).length c251_7],.slice A1 l1.length c1] rfl gs ?_;(with_reducible refine(zz.calls k1 ((zg l0 x14_1).f0) ((zg l0 x14_1).f1.f0) ((zg l0 x14_1).f1.f1) ((zg l0 x14_1).f1.f2) ((zg l0 x14_1).f2) ((zg l0 x14_1).f3) ((zg l0 x14_1).f4) _ _ ((zg l0 x14_1).f5) _ _ l1 t253 t254 t255 t256 _ ?side1 ?side2 ?side3 ?side4 A6.out).mono ?_);(case side1=>exact Kd.zqe HR251_7.out bw);(case side2=>exact HC251_7.out);(case side3=>exact Kd.zqe HR1.out bw);(case side4=>exact HC1.out);rintro e w27 ⟨rfl,hb⟩;refine⟨_,rfl,?_⟩;replace BK252:=zq.mk (zf (g:=gb252) (o:=.cells #[.int .i64 ((zg l0 x14_1).f0),.int .i64 ((zg l0 x14_1).f1.f0),.int .i64 ((zg l0 x14_1).f1.f1),.string ((zg l0 x14_1).f1.f2),.string ((zg l0 x14_1).f2),.string ((zg l0 x14_1).f3),.int .i64 ((zg l0 x14_1).f4),.slice A251_7 ((zg l0 x14_1).f5).length c251_7] 33 (0,0)) (by(with_reducible repeat(first|refine zn ?_ _|refine zt ?_|refine zy ?_ _));refine zl (cs:=#[.int .i64 ((zg l0 x14_1).f0),.int .i64 ((zg l0 x14_1).f1.f0),.int .i64 ((zg l0 x14_1).f1.f1),.string ((zg l0 x14_1).f1.f2),.string ((zg l0 x14_1).f2),.string ((zg l0 x14_1).f3),.int .i64 ((zg l0 x14_1).f4),.slice none 0 0]) ?_ 7 _ rfl;(with_reducible repeat(first|refine zn ?_ _|refine zt ?_|refine zy ?_ _));refine zl (cs:=#[.int .i64 ((zg l0 x14_1).f0),.int .i64 ((zg l0 x14_1).f1.f0),.int .i64 ((zg l0 x14_1).f1.f1),.string ((zg l0 x14_1).f1.f2),.string ((zg l0 x14_1).f2),.string ((zg l0 x14_1).f3),.int .i64 0,.slice none 0 0]) ?_ 6 _ rfl;(with_reducible repeat(first|refine zn ?_ _|refine zt ?_|refine zy ?_ _));refine zl (cs:=#[.int .i64 ((zg l0 x14_1).f0),.int .i64 ((zg l0 x14_1).f1.f0),.int .i64 ((zg l0 x14_1).f1.f1),.string ((zg l0 x14_1).f1.f2),.string ((zg l0 x14_1).f2),.string (⟨#[]⟩:ByteArray),.int .i64 0,.slice none 0 0]) ?_ 5 _ rfl;(with_reducible repeat(first|refine zn ?_ _|refine zt ?_|refine zy ?_ _));refine zl (cs:=#[.int .i64 ((zg l0 x14_1).f0),.int .i64 ((zg l0 x14_1).f1.f0),.int .i64 ((zg l0 x14_1).f1.f1),.string ((zg l0 x14_1).f1.f2),.string (⟨#[]⟩:ByteArray),.string (⟨#[]⟩:ByteArray),.int .i64 0,.slice none 0 0]) ?_ 4 _ rfl;(with_reducible repeat(first|refine zn ?_ _|refine zt ?_|refine zy ?_ _));refine zl (cs:=#[.int .i64 ((zg l0 x14_1).f0),.int .i64 ((zg l0 x14_1).f1.f0),.int .i64 ((zg l0 x14_1).f1.f1),.string (⟨#[]⟩:ByteArray),.string (⟨#[]⟩:ByteArray),.string (⟨#[]⟩:ByteArray),.int .i64 0,.slice none 0 0]) ?_ 3 _ rfl;(with_reducible repeat(first|refine zn ?_ _|refine zt ?_|refine zy ?_ _));refine zl (cs:=#[.int .i64 ((zg l0 x14_1).f0),.int .i64 ((zg l0 x14_1).f1.f0),.int .i64 0,.string (⟨#[]⟩:ByteArray),.string (⟨#[]⟩:ByteArray),.string (⟨#[]⟩:ByteArray),.int .i64 0,.slice none 0 0]) ?_ 2 _ rfl;(with_reducible repeat(first|refine zn ?_ _|refine zt ?_|refine zy ?_ _));refine zl (cs:=#[.int .i64 ((zg l0 x14_1).f0),.int .i64 0,.int .i64 0,.string (⟨#[]⟩:ByteArray),.string (⟨#[]⟩:ByteArray),.string (⟨#[]⟩:ByteArray),.int .i64 0,.slice none 0 0]) ?_ 1 _ rfl;(with_reducible repeat(first|refine zn ?_ _|refine zt ?_|refine zy ?_ _));refine zl (cs:=#[.int .i64 0,.int .i64 0,.int .i64 0,.string (⟨#[]⟩:ByteArray),.string (⟨#[]⟩:ByteArray),.string (⟨#[]⟩:ByteArray),.int .i64 0,.slice none 0 0]) ?_ 0 _ rfl;(with_reducible repeat(first|refine zn ?_ _|refine zt ?_|refine zy ?_ _));exact BK252.out) hb);replace HB:=zq.mk (zb bw hb);(try clear hb);(try clear hb2);(try clear hk);(try clear hi))|((with_reducible refine ql (N:=8) rfl ?_);refine qh ?hg (N:=8) ?hd (cs:=#[.int .i64 0,.int .i64 0,.string (⟨#[]⟩:ByteArray)]) (t:=30) ?hr ?_;(case hd=>rfl);(case hg=>rfl);(case hr=>first|(go_simp;done)|(go_simp;rfl));intro gb257 hg w28 hbox hb;have BK257:=zq.mk (hbox);have GW257:=zq.mk ((by rw [hg];exact(zv bw):w.heap.size≤gb257));have GE257:=zq.mk ((by rw [hg];exact(zv bw):w.heap.size≤gb257));replace HB:=zq.mk (zb bw hb);have NB252_257:=zq.mk ((by rw [hg];exact Nat.ne_of_lt (qf (g:=gb252) (o:=.cells #[.int .i64 ((zg l0 x14_1).f0),.int .i64 ((zg l0 x14_1).f1.f0),.int .i64 ((zg l0 x14_1).f1.f1),.string ((zg l0 x14_1).f1.f2),.string ((zg l0 x14_1).f2),.string ((zg l0 x14_1).f3),.int .i64 ((zg l0 x14_1).f4),.slice A251_7 ((zg l0 x14_1).f5).length c251_7] 33 (0,0)) (up BK252.out)):gb252≠gb257));have NB257_252:=zq.mk ((by rw [hg];exact Nat.ne_of_gt (qf (g:=gb252) (o:=.cells #[.int .i64 ((zg l0 x14_1).f0),.int .i64 ((zg l0 x14_1).f1.f0),.int .i64 ((zg l0 x14_1).f1.f1),.string ((zg l0 x14_1).f1.f2),.string ((zg l0 x14_1).f2),.string ((zg l0 x14_1).f3),.int .i64 ((zg l0 x14_1).f4),.slice A251_7 ((zg l0 x14_1).f5).length c251_7] 33 (0,0)) (up BK252.out)):gb257≠gb252));replace BK252:=zq.mk (zf (g:=gb252) (o:=.cells #[.int .i64 ((zg l0 x14_1).f0),.int .i64 ((zg l0 x14_1).f1.f0),.int .i64 ((zg l0 x14_1).f1.f1),.string ((zg l0 x14_1).f1.f2),.string ((zg l0 x14_1).f2),.string ((zg l0 x14_1).f3),.int .i64 ((zg l0 x14_1).f4),.slice A251_7 ((zg l0 x14_1).f5).length c251_7] 33 (0,0)) (up BK252.out) hb);clear hb hbox hg;have hnb29:=NB257_252.out;have hnc29:=NB252_257.out;obtain ⟨hcz30_0,hcz30_1,hcz30_2,hfz30_0,hfz30_1,hfz30_2⟩:=zr BK257.out)|((with_reducible refine zs (f:=53) rfl ?_);refine qo (some 29) rfl rfl Tryd.func53 (by kernel_rfl) rfl #[.agg #[.int .i64 t253,.int .i64 t254,.string t255]] rfl gs ?_;(with_reducible refine(qw.calls k1 t253 t254 t255 t258 t259 _ A8.out).mono ?_);rintro e w31 ⟨rfl,hb⟩;refine⟨_,rfl,?_⟩;replace BK252:=zq.mk (zf (g:=gb252) (o:=.cells #[.int .i64 ((zg l0 x14_1).f0),.int .i64 ((zg l0 x14_1).f1.f0),.int .i64 ((zg l0 x14_1).f1.f1),.string ((zg l0 x14_1).f1.f2),.string ((zg l0 x14_1).f2),.string ((zg l0 x14_1).f3),.int .i64 ((zg l0 x14_1).f4),.slice A251_7 ((zg l0 x14_1).f5).length c251_7] 33 (0,0)) (by(with_reducible repeat(first|refine zn ?_ _|refine zt ?_|refine zy ?_ _));refine zqv ?_ NB252_257.out _;(with_reducible repeat(first|refine zn ?_ _|refine zt ?_|refine zy ?_ _));refine zqv ?_ NB252_257.out _;(with_reducible repeat(first|refine zn ?_ _|refine zt ?_|refine zy ?_ _));refine zqv ?_ NB252_257.out _;(with_reducible repeat(first|refine zn ?_ _|refine zt ?_|refine zy ?_ _));exact BK252.out) hb);replace BK257:=zq.mk (zf (g:=gb257) (o:=.cells #[.int .i64 t253,.int .i64 t254,.string t255] 30 (0,0)) (by(with_reducible repeat(first|refine zn ?_ _|refine zt ?_|refine zy ?_ _));refine zl (cs:=#[.int .i64 t253,.int .i64 t254,.string (⟨#[]⟩:ByteArray)]) ?_ 2 _ rfl;(with_reducible repeat(first|refine zn ?_ _|refine zt ?_|refine zy ?_ _));refine zl (cs:=#[.int .i64 t253,.int .i64 0,.string (⟨#[]⟩:ByteArray)]) ?_ 1 _ rfl;(with_reducible repeat(first|refine zn ?_ _|refine zt ?_|refine zy ?_ _));refine zl (cs:=#[.int .i64 0,.int .i64 0,.string (⟨#[]⟩:ByteArray)]) ?_ 0 _ rfl;(with_reducible repeat(first|refine zn ?_ _|refine zt ?_|refine zy ?_ _));exact BK257.out) hb);replace HB:=zq.mk (zb bw hb);(try clear hb);(try clear hb2);(try clear hk);(try clear hi)))
       go_ret2
       exact⟨by first|rfl|(simp [zk,zx] <;> rfl)|(simp [*,zk,zx] <;> rfl),bw⟩
      rw [if_neg c7] at H
      have c7b0:(t256 == 0)=false:=beq_eq_false_iff_ne.mpr c7
      have c7b1:(t256 != 0)=true:=bne_iff_ne.mpr c7
      simp only [Option.some.injEq,Prod.mk.injEq] at H
      obtain ⟨rfl,rfl⟩:=H
      have p251:0≤(x14_1:Int):=dt
      have q251:x14_1<(l0.length:Int):=dt
      obtain ⟨ad251,A251_7,c251_7,e251,hx251_0,hx251_1,hx251_2,hx251_3,hx251_4,hx251_5,hx251_6,hx251_7,hl251_7,hi251_7⟩:=zxc HR0.out x14_1 p251 q251
      cases e251
      replace hx251_0:=(HB.out.cell (World.block_lt_of_cell? w _ hx251_0)).trans hx251_0
      replace hx251_1:=(HB.out.cell (World.block_lt_of_cell? w _ hx251_1)).trans hx251_1
      replace hx251_2:=(HB.out.cell (World.block_lt_of_cell? w _ hx251_2)).trans hx251_2
      replace hx251_3:=(HB.out.cell (World.block_lt_of_cell? w _ hx251_3)).trans hx251_3
      replace hx251_4:=(HB.out.cell (World.block_lt_of_cell? w _ hx251_4)).trans hx251_4
      replace hx251_5:=(HB.out.cell (World.block_lt_of_cell? w _ hx251_5)).trans hx251_5
      replace hx251_6:=(HB.out.cell (World.block_lt_of_cell? w _ hx251_6)).trans hx251_6
      replace hx251_7:=(HB.out.cell (World.block_lt_of_cell? w _ hx251_7)).trans hx251_7
      have HR251_7:=zq.mk hi251_7
      have HC251_7:=zq.mk hl251_7
      clear hi251_7 hl251_7
      replace p251:=eq_true p251
      replace q251:=eq_true q251
      go_wp2_with (first|((with_reducible refine ql (N:=7) rfl ?_);refine qh ?hg (N:=7) ?hd (cs:=#[.int .i64 0,.int .i64 0,.int .i64 0,.string (⟨#[]⟩:ByteArray),.string (⟨#[]⟩:ByteArray),.string (⟨#[]⟩:ByteArray),.int .i64 0,.slice none 0 0]) (t:=33) ?hr ?_;(case hd=>rfl);(case hg=>rfl);(case hr=>first|(go_simp;done)|(go_simp;rfl));intro gb252 hg w32 hbox hb;have BK252:=zq.mk (hbox);have GW252:=zq.mk ((by rw [hg];exact(zv bw):w.heap.size≤gb252));have GE252:=zq.mk ((by rw [hg];exact(zv bw):w.heap.size≤gb252));replace HB:=zq.mk (zb bw hb);clear hb hbox hg;obtain ⟨hcz33_0,hcz33_1,hcz33_2,hcz33_3,hcz33_4,hcz33_5,hcz33_6,hcz33_7,hfz33_0,hfz33_1,hfz33_2,hfz33_3,hfz33_4,hfz33_5,hfz33_6,hfz33_7⟩:=zql BK252.out)|((with_reducible refine zs (f:=52) rfl ?_);refine qo (some 21) rfl rfl Tryd.func52 (by kernel_rfl) rfl #[.agg #[.int .i64 ((zg l0 x14_1).f0),.int .i64 ((zg l0 x14_1).f1.f0),.int .i64 ((zg l0 x14_1).f1.f1),.string ((zg l0 x14_1).f1.f2),.string ((zg l0 x14_1).f2),.string ((zg l0 x14_1).f3),.int .i64 ((zg l0 x14_1).f4),.slice A251_7 ((zg l0 x14_1).f5).length c251_7],.slice A1 l1.length c1] rfl gs ?_;(with_reducible refine(zz.calls k1 ((zg l0 x14_1).f0) ((zg l0 x14_1).f1.f0) ((zg l0 x14_1).f1.f1) ((zg l0 x14_1).f1.f2) ((zg l0 x14_1).f2) ((zg l0 x14_1).f3) ((zg l0 x14_1).f4) _ _ ((zg l0 x14_1).f5) _ _ l1 t253 t254 t255 t256 _ ?side1 ?side2 ?side3 ?side4 A6.out).mono ?_);(case side1=>exact Kd.zqe HR251_7.out bw);(case side2=>exact HC251_7.out);(case side3=>exact Kd.zqe HR1.out bw);(case side4=>exact HC1.out);rintro e w34 ⟨rfl,hb⟩;refine⟨_,rfl,?_⟩;replace BK252:=zq.mk (zf (g:=gb252) (o:=.cells #[.int .i64 ((zg l0 x14_1).f0),.int .i64 ((zg l0 x14_1).f1.f0),.int .i64 ((zg l0 x14_1).f1.f1),.string ((zg l0 x14_1).f1.f2),.string ((zg l0 x14_1).f2),.string ((zg l0 x14_1).f3),.int .i64 ((zg l0 x14_1).f4),.slice A251_7 ((zg l0 x14_1).f5).length c251_7] 33 (0,0)) (by(with_reducible repeat(first|refine zn ?_ _|refine zt ?_|refine zy ?_ _));refine zl (cs:=#[.int .i64 ((zg l0 x14_1).f0),.int .i64 ((zg l0 x14_1).f1.f0),.int .i64 ((zg l0 x14_1).f1.f1),.string ((zg l0 x14_1).f1.f2),.string ((zg l0 x14_1).f2),.string ((zg l0 x14_1).f3),.int .i64 ((zg l0 x14_1).f4),.slice none 0 0]) ?_ 7 _ rfl;(with_reducible repeat(first|refine zn ?_ _|refine zt ?_|refine zy ?_ _));refine zl (cs:=#[.int .i64 ((zg l0 x14_1).f0),.int .i64 ((zg l0 x14_1).f1.f0),.int .i64 ((zg l0 x14_1).f1.f1),.string ((zg l0 x14_1).f1.f2),.string ((zg l0 x14_1).f2),.string ((zg l0 x14_1).f3),.int .i64 0,.slice none 0 0]) ?_ 6 _ rfl;(with_reducible repeat(first|refine zn ?_ _|refine zt ?_|refine zy ?_ _));refine zl (cs:=#[.int .i64 ((zg l0 x14_1).f0),.int .i64 ((zg l0 x14_1).f1.f0),.int .i64 ((zg l0 x14_1).f1.f1),.string ((zg l0 x14_1).f1.f2),.string ((zg l0 x14_1).f2),.string (⟨#[]⟩:ByteArray),.int .i64 0,.slice none 0 0]) ?_ 5 _ rfl;(with_reducible repeat(first|refine zn ?_ _|refine zt ?_|refine zy ?_ _));refine zl (cs:=#[.int .i64 ((zg l0 x14_1).f0),.int .i64 ((zg l0 x14_1).f1.f0),.int .i64 ((zg l0 x14_1).f1.f1),.string ((zg l0 x14_1).f1.f2),.string (⟨#[]⟩:ByteArray),.string (⟨#[]⟩:ByteArray),.int .i64 0,.slice none 0 0]) ?_ 4 _ rfl;(with_reducible repeat(first|refine zn ?_ _|refine zt ?_|refine zy ?_ _));refine zl (cs:=#[.int .i64 ((zg l0 x14_1).f0),.int .i64 ((zg l0 x14_1).f1.f0),.int .i64 ((zg l0 x14_1).f1.f1),.string (⟨#[]⟩:ByteArray),.string (⟨#[]⟩:ByteArray),.string (⟨#[]⟩:ByteArray),.int .i64 0,.slice none 0 0]) ?_ 3 _ rfl;(with_reducible repeat(first|refine zn ?_ _|refine zt ?_|refine zy ?_ _));refine zl (cs:=#[.int .i64 ((zg l0 x14_1).f0),.int .i64 ((zg l0 x14_1).f1.f0),.int .i64 0,.string (⟨#[]⟩:ByteArray),.string (⟨#[]⟩:ByteArray),.string (⟨#[]⟩:ByteArray),.int .i64 0,.slice none 0 0]) ?_ 2 _ rfl;(with_reducible repeat(first|refine zn ?_ _|refine zt ?_|refine zy ?_ _));refine zl (cs:=#[.int .i64 ((zg l0 x14_1).f0),.int .i64 0,.int .i64 0,.string (⟨#[]⟩:ByteArray),.string (⟨#[]⟩:ByteArray),.string (⟨#[]⟩:ByteArray),.int .i64 0,.slice none 0 0]) ?_ 1 _ rfl;(with_reducible repeat(first|refine zn ?_ _|refine zt ?_|refine zy ?_ _));refine zl (cs:=#[.int .i64 0,.int .i64 0,.int .i64 0,.string (⟨#[]⟩:ByteArray),.string (⟨#[]⟩:ByteArray),.string (⟨#[]⟩:ByteArray),.int .i64 0,.slice none 0 0]) ?_ 0 _ rfl;(with_reducible repeat(first|refine zn ?_ _|refine zt ?_|refine zy ?_ _));exact BK252.out) hb);replace HB:=zq.mk (zb bw hb);(try clear hb);(try clear hb2);(try clear hk);(try clear hi))|((with_reducible refine ql (N:=8) rfl ?_);refine qh ?hg (N:=8) ?hd (cs:=#[.int .i64 0,.int .i64 0,.string (⟨#[]⟩:ByteArray)]) (t:=30) ?hr ?_;(case hd=>rfl);(case hg=>rfl);(case hr=>first|(go_simp;done)|(go_simp;rfl));intro gb257 hg w35 hbox hb;have BK257:=zq.mk (hbox);have GW257:=zq.mk ((by rw [hg];exact(zv bw):w.heap.size≤gb257));have GE257:=zq.mk ((by rw [hg];exact(zv bw):w.heap.size≤gb257));replace HB:=zq.mk (zb bw hb);have NB252_257:=zq.mk ((by rw [hg];exact Nat.ne_of_lt (qf (g:=gb252) (o:=.cells #[.int .i64 ((zg l0 x14_1).f0),.int .i64 ((zg l0 x14_1).f1.f0),.int .i64 ((zg l0 x14_1).f1.f1),.string ((zg l0 x14_1).f1.f2),.string ((zg l0 x14_1).f2),.string ((zg l0 x14_1).f3),.int .i64 ((zg l0 x14_1).f4),.slice A251_7 ((zg l0 x14_1).f5).length c251_7] 33 (0,0)) (up BK252.out)):gb252≠gb257));have NB257_252:=zq.mk ((by rw [hg];exact Nat.ne_of_gt (qf (g:=gb252) (o:=.cells #[.int .i64 ((zg l0 x14_1).f0),.int .i64 ((zg l0 x14_1).f1.f0),.int .i64 ((zg l0 x14_1).f1.f1),.string ((zg l0 x14_1).f1.f2),.string ((zg l0 x14_1).f2),.string ((zg l0 x14_1).f3),.int .i64 ((zg l0 x14_1).f4),.slice A251_7 ((zg l0 x14_1).f5).length c251_7] 33 (0,0)) (up BK252.out)):gb257≠gb252));replace BK252:=zq.mk (zf (g:=gb252) (o:=.cells #[.int .i64 ((zg l0 x14_1).f0),.int .i64 ((zg l0 x14_1).f1.f0),.int .i64 ((zg l0 x14_1).f1.f1),.string ((zg l0 x14_1).f1.f2),.string ((zg l0 x14_1).f2),.string ((zg l0 x14_1).f3),.int .i64 ((zg l0 x14_1).f4),.slice A251_7 ((zg l0 x14_1).f5).length c251_7] 33 (0,0)) (up BK252.out) hb);clear hb hbox hg;have hnb36:=NB257_252.out;have hnc36:=NB252_257.out;obtain ⟨hcz37_0,hcz37_1,hcz37_2,hfz37_0,hfz37_1,hfz37_2⟩:=zr BK257.out))
      go_ret2
      exact⟨by first|rfl|(simp [zk,zx] <;> rfl)|(simp [*,zk,zx] <;> rfl),bw⟩
     rw [if_neg c5] at H
     exact absurd H (by simp)
    rw [if_neg c4] at H
    exact absurd H (by simp)
   rw [if_neg c3] at H
   have c3b0:=decide_eq_false c3
   clear c3
   simp only [Option.some.injEq,Prod.mk.injEq] at H
   obtain ⟨rfl,rfl⟩:=H
   go_wp2
   go_ret2
   exact⟨by first|rfl|(simp [zk,zx] <;> rfl)|(simp [*,zk,zx] <;> rfl),bw⟩

/-! ### qz: function 54 -/
mutual
def qz.j0:Nat→Int→Bool→Int→Int→Int→ByteArray→ByteArray→ByteArray→Int→List (S33)→Option ((List (S33)))
 | 0,_,_,_,_,_,_,_,_,_,_=>none
 | k+1,x1,x17,x261000,x261001,x261002,x261003,x261004,x261005,x261006,x261007=>if x17=true then(if 0<(x261007.length:Int) then((qz.f k ((zg x261007 0).f0) ((zg x261007 0).f1.f0) ((zg x261007 0).f1.f1) ((zg x261007 0).f1.f2) ((zg x261007 0).f2) ((zg x261007 0).f3) ((zg x261007 0).f4) ((zg x261007 0).f5) (wrap64 (x1 - 1))).bind fun t262=>(if 1<(x261007.length:Int) then((qz.f k ((zg x261007 1).f0) ((zg x261007 1).f1.f0) ((zg x261007 1).f1.f1) ((zg x261007 1).f1.f2) ((zg x261007 1).f2) ((zg x261007 1).f3) ((zg x261007 1).f4) ((zg x261007 1).f5) (wrap64 (x1 - 1))).bind fun t266=>(if t262.length+t266.length<1353245080339 then(some (t262 ++ t266)) else (none))) else (none))) else (none)) else (some (([(⟨x261000,(⟨x261001,x261002,x261003⟩:S30),x261004,x261005,x261006,x261007⟩:S33)]:List (S33))))
def qz.f:Nat→Int→Int→Int→ByteArray→ByteArray→ByteArray→Int→List (S33)→Int→Option ((List (S33)))
 | 0,_,_,_,_,_,_,_,_,_=>none
 | k+1,a0_0,a0_1,a0_2,a0_3,a0_4,a0_5,a0_6,l0_7,a1=>if a1 > 1 then(if a0_0=19 then(qz.j0 k a1 ((l0_7.length:Int) == 2) a0_0 a0_1 a0_2 a0_3 a0_4 a0_5 a0_6 l0_7) else (qz.j0 k a1 false a0_0 a0_1 a0_2 a0_3 a0_4 a0_5 a0_6 l0_7)) else (qz.j0 k a1 false a0_0 a0_1 a0_2 a0_3 a0_4 a0_5 a0_6 l0_7)
end
theorem qz.mono_l:∀ k,(∀ y0 y1 y2 y3 y4 y5 y6 y7 y8,LeO (qz.f k y0 y1 y2 y3 y4 y5 y6 y7 y8) (qz.f (k+1) y0 y1 y2 y3 y4 y5 y6 y7 y8))∧(∀ y0 y1 y2 y3 y4 y5 y6 y7 y8 y9,LeO (qz.j0 k y0 y1 y2 y3 y4 y5 y6 y7 y8 y9) (qz.j0 (k+1) y0 y1 y2 y3 y4 y5 y6 y7 y8 y9))
 | 0=>⟨fun _ _ _ _ _ _ _ _ _ r h=>by simp [qz.f] at h,fun _ _ _ _ _ _ _ _ _ _ r h=>by simp [qz.j0] at h⟩
 | k+1=>by
  obtain ⟨ih0,ih1⟩:=qz.mono_l k
  refine⟨?_,?_⟩
  ·intro y0 y1 y2 y3 y4 y5 y6 y7 y8
   unfold qz.f
   repeat' first
   | (with_reducible first|exact ih0 _ _ _ _ _ _ _ _ _|exact ih1 _ _ _ _ _ _ _ _ _ _|exact LeO.refl _|exact LeO.none _|refine LeO.ite ?_ ?_|refine LeO.bind ?_ (fun _=>?_))
   | exact ih0 _ _ _ _ _ _ _ _ _
   | exact ih1 _ _ _ _ _ _ _ _ _ _
   | exact LeO.none _
   | refine LeO.ite ?_ ?_
   | refine LeO.bind ?_ (fun _=>?_)
  intro y0 y1 y2 y3 y4 y5 y6 y7 y8 y9
  unfold qz.j0
  repeat' first
  | (with_reducible first|exact ih0 _ _ _ _ _ _ _ _ _|exact ih1 _ _ _ _ _ _ _ _ _ _|exact LeO.refl _|exact LeO.none _|refine LeO.ite ?_ ?_|refine LeO.bind ?_ (fun _=>?_))
  | exact ih0 _ _ _ _ _ _ _ _ _
  | exact ih1 _ _ _ _ _ _ _ _ _ _
  | exact LeO.none _
  | refine LeO.ite ?_ ?_
  | refine LeO.bind ?_ (fun _=>?_)
theorem qz.mono:∀ a0 a1 a2 a3 a4 a5 a6 a7 a8 k,LeO (qz.f k a0 a1 a2 a3 a4 a5 a6 a7 a8) (qz.f (k+1) a0 a1 a2 a3 a4 a5 a6 a7 a8):=by
 intro a0 a1 a2 a3 a4 a5 a6 a7 a8 k
 obtain ⟨ih0,ih1⟩:=qz.mono_l k
 exact ih0 a0 a1 a2 a3 a4 a5 a6 a7 a8
def qz.T2:Bool × List (List Nat × List Nat):=(true, [([], []),([0], [0]),([1], [1]),([2], [2]),([], []),([4], [4]),([3,5], [3,5]),([], []),([7], [7]),([8], [8]),([9], [9]),([], []),([11], [11]),([10,12,6], [10,12]),([6,13,13], [6,13]),([14,14,0,1,2,3,4,5,6,7,8,9,10,11,12,13,14], [14])])
def qz.B2:List Nat := [0,1,3,7,0,16,63,0,128,384,896,0,2048,8191,16383,32767]
theorem qz.tab2:rtab .any (opsOf Tryd.f54 2)=qz.T2:=by kernel_rfl
theorem qz.bits2:zx1 qz.T2.2 qz.B2=true:=by kernel_rfl
set_option maxHeartbeats 8000000 in
set_option maxRecDepth 100000 in
theorem qz.calls (k:Nat):∀ (a0_0:Int) (a0_1:Int) (a0_2:Int) (a0_3:ByteArray) (a0_4:ByteArray) (a0_5:ByteArray) (a0_6:Int) (P0_7_:Nat→Prop) (A0_7:Option Addr) (c0_7:Nat) (l0_7:List (S33)) (a1:Int) (r:List (S33)) (w:World) (hs0_7:Kd.V k33 33 w w.heap.size (fun k_=>P0_7_ k_) (.slice A0_7 l0_7.length c0_7) l0_7) (h:qz.f k a0_0 a0_1 a0_2 a0_3 a0_4 a0_5 a0_6 l0_7 a1=some r),
  Calls Tryd.prog 54 #[.agg #[.int .i64 a0_0,.int .i64 a0_1,.int .i64 a0_2,.string a0_3,.string a0_4,.string a0_5,.int .i64 a0_6,.slice A0_7 l0_7.length c0_7],.int .i64 a1] w fun e w' => ∃ v0_:Value,e = .returned (v0_)∧Kd.N k33 33 w' w.heap.size (fun k_=>(P0_7_ k_∨w.heap.size≤k_)) v0_ r∧Below w.heap.size w w':=by
 induction k using Nat.strongRecOn with
 | _ k ih=>
 intro a0_0 a0_1 a0_2 a0_3 a0_4 a0_5 a0_6 P0_7_ A0_7 c0_7 l0_7 a1 r w hs0_7 h
 cases k with
 | zero=>exact absurd h (by simp [qz.f])
 | succ k=>
 simp only [qz.f] at h
 have hu33:=Tryd.underlying33
 have HO0_7:=zq.mk (show Kd.V k33 33 w w.heap.size (fun k_=>(P0_7_ k_∨w.heap.size≤k_)) (.slice A0_7 l0_7.length c0_7) l0_7 from Kd.zko hs0_7 (fun k_ hk=>.inl hk))
 have HB:=zq.mk (Below.refl w.heap.size w)
 have H:(if a1 > 1 then(if a0_0=19 then(qz.j0 k a1 ((l0_7.length:Int) == 2) a0_0 a0_1 a0_2 a0_3 a0_4 a0_5 a0_6 l0_7) else (qz.j0 k a1 false a0_0 a0_1 a0_2 a0_3 a0_4 a0_5 a0_6 l0_7)) else (qz.j0 k a1 false a0_0 a0_1 a0_2 a0_3 a0_4 a0_5 a0_6 l0_7))=some r:=h
 clear h
 have HC3:=zq.mk H
 clear H
 go_enter Tryd.func54,Tryd.ntmps54
 go_upto_region 1 with (first|((with_reducible refine ql (N:=2) rfl ?_);(try(refine zjy (by rfl) ?_;dsimp only));refine qh ?hg (N:=2) ?hd (cs:=#[.int .i64 a0_0,.int .i64 a0_1,.int .i64 a0_2,.string a0_3,.string a0_4,.string a0_5,.int .i64 a0_6,.slice A0_7 l0_7.length c0_7]) (t:=33) ?hr ?_;(case hd=>rfl);(case hg=>rfl);(case hr=>first|(go_simp;done)|(go_simp;rfl));intro gb260 hg w4 hbox hb;replace HO0_7:=zq.mk (Kd.V_below (Kd.V_elderB (Kd.vu HO0_7.out) gb260 (Nat.le_of_eq hg.symm)) hb);have BK260:=zq.mk (hbox);have GW260:=zq.mk ((by rw [hg];exact(zv bw):w.heap.size≤gb260));have GE260:=zq.mk ((by rw [hg];exact(zv bw):w.heap.size≤gb260));replace HB:=zq.mk (zb bw hb);clear hb hbox hg))
 (try simp only [Act.put,List.setIfInBounds_toArray,List.set_cons_zero,List.set_cons_succ])
 go_cut [17] (fun v17 wc => ∃ (kq:Nat) (x17_2:Bool),v17 = .bool x17_2∧zq (qz.j0 kq a1 x17_2 a0_0 a0_1 a0_2 a0_3 a0_4 a0_5 a0_6 l0_7=some r)∧zq (kq≤k)∧zq (Kd.V k33 33 wc w.heap.size (fun k_=>(P0_7_ k_∨w.heap.size≤k_)∧k_≠gb260) (.slice A0_7 l0_7.length c0_7) l0_7)∧zq (wc.heap[gb260]? = some (.cells #[.int .i64 a0_0,.int .i64 a0_1,.int .i64 a0_2,.string a0_3,.string a0_4,.string a0_5,.int .i64 a0_6,(.slice A0_7 l0_7.length c0_7)] 33 (0,0)))∧zq (Below w.heap.size w wc))
 case first=>
  have H:=HC3.out
  clear HC3
  by_cases c5:a1 > 1
  ·rw [if_pos c5] at H
   have c5b0:=decide_eq_true c5
   clear c5
   (first|rw [c5b0]|(simp only [zqw,zqx];rw [c5b0])|skip)
   by_cases c6:a0_0=19
   ·rw [if_pos c6] at H
    have c6b0:(a0_0 == 19)=true:=beq_iff_eq.mpr c6
    have c6b1:(a0_0 != 19)=false:=bne_eq_false_iff_eq.mpr c6
    clear c6
    have H':=zq.mk H
    clear H
    obtain ⟨hcz7_0,hcz7_1,hcz7_2,hcz7_3,hcz7_4,hcz7_5,hcz7_6,hcz7_7,hfz7_0,hfz7_1,hfz7_2,hfz7_3,hfz7_4,hfz7_5,hfz7_6,hfz7_7⟩:=zql BK260.out
    go_wp2
    go_meet
    case rel=>exact⟨_,(((l0_7.length:Int) == 2)),vr,H',⟨by first|omega|exact Nat.le_refl _⟩,⟨by(with_reducible repeat(first|apply Kd.V_alloc|apply Kd.V_drewN|apply Kd.V_drew));exact HO0_7.out⟩,⟨by(with_reducible repeat(first|refine zn ?_ _|refine zt ?_|refine zy ?_ _));exact BK260.out⟩,⟨bw⟩⟩
   rw [if_neg c6] at H
   have c6b0:(a0_0 == 19)=false:=beq_eq_false_iff_ne.mpr c6
   have c6b1:(a0_0 != 19)=true:=bne_iff_ne.mpr c6
   have H':=zq.mk H
   clear H
   obtain ⟨hcz8_0,hcz8_1,hcz8_2,hcz8_3,hcz8_4,hcz8_5,hcz8_6,hcz8_7,hfz8_0,hfz8_1,hfz8_2,hfz8_3,hfz8_4,hfz8_5,hfz8_6,hfz8_7⟩:=zql BK260.out
   go_wp2
   go_meet
   case rel=>exact⟨_,(false),vr,H',⟨by first|omega|exact Nat.le_refl _⟩,⟨by(with_reducible repeat(first|apply Kd.V_alloc|apply Kd.V_drewN|apply Kd.V_drew));exact HO0_7.out⟩,⟨by(with_reducible repeat(first|refine zn ?_ _|refine zt ?_|refine zy ?_ _));exact BK260.out⟩,⟨bw⟩⟩
  rw [if_neg c5] at H
  have c5b0:=decide_eq_false c5
  clear c5
  (first|rw [c5b0]|(simp only [zqw,zqx];rw [c5b0])|skip)
  have H':=zq.mk H
  clear H
  go_wp2
  go_meet
  case rel=>exact⟨_,(false),vr,H',⟨by first|omega|exact Nat.le_refl _⟩,⟨by(with_reducible repeat(first|apply Kd.V_alloc|apply Kd.V_drewN|apply Kd.V_drew));exact HO0_7.out⟩,⟨by(with_reducible repeat(first|refine zn ?_ _|refine zt ?_|refine zy ?_ _));exact BK260.out⟩,⟨bw⟩⟩
 case rest=>
  clear HC3
  (try clear HO_261007);(try clear BK260)
  obtain ⟨kq,x17_2,rfl,HA,HJ2,HO_261007,BK260,HB⟩:=hcut
  cases kq with
  | zero=>exact absurd HA.out (by simp [qz.j0])
  | succ kj2=>
   have H:=HA.out
   clear HA
   simp only [qz.j0] at H
   by_cases c9:x17_2=true
   ·subst c9
    rw [if_pos rfl] at H
    by_cases c10:0<(l0_7.length:Int)
    ·rw [if_pos c10] at H
     have c10b0:=decide_eq_true c10
     have c10b1:decide (0<l0_7.length)=true:=decide_eq_true (by omega)
     clear c10
     replace H:=Option.bind_eq_some_iff.mp H
     obtain ⟨t262,A110,H⟩:=H
     replace H:(if 1<(l0_7.length:Int) then((qz.f kj2 ((zg l0_7 1).f0) ((zg l0_7 1).f1.f0) ((zg l0_7 1).f1.f1) ((zg l0_7 1).f1.f2) ((zg l0_7 1).f2) ((zg l0_7 1).f3) ((zg l0_7 1).f4) ((zg l0_7 1).f5) (wrap64 (a1 - 1))).bind fun t266=>(if t262.length+t266.length<1353245080339 then(some (t262 ++ t266)) else (none))) else (none))=some r:=H
     have A11:=zq.mk A110
     clear A110
     by_cases c12:1<(l0_7.length:Int)
     ·rw [if_pos c12] at H
      have c12b0:=decide_eq_true c12
      have c12b1:decide (1<l0_7.length)=true:=decide_eq_true (by omega)
      clear c12
      replace H:=Option.bind_eq_some_iff.mp H
      obtain ⟨t266,A130,H⟩:=H
      replace H:(if t262.length+t266.length<1353245080339 then(some (t262 ++ t266)) else (none))=some r:=H
      have A13:=zq.mk A130
      clear A130
      by_cases c14:t262.length+t266.length<1353245080339
      ·rw [if_pos c14] at H
       have LMc14:=zq.mk c14
       clear c14
       obtain ⟨y269,hy269⟩:∃ y_:List (S33),y_=(t262 ++ t266):=⟨_,rfl⟩
       replace H:(some y269)=some r:=by first|(rw [hy269];with_reducible exact H)|(have H2_:=(Option.bind_some _ _).symm.trans H;rw [hy269];with_reducible exact H2_)|(have H2_:=(Option.bind_some _ _).symm.trans H;with_reducible exact H2_)|with_reducible exact H|(rw [hy269];exact H)|exact H
       have Ny269:=zq.mk hy269
       clear hy269
       obtain rfl:=Option.some.inj H
       try go_wp2
       have n0_:=zq.mk (Kd.V_drew HO_261007.out)
       have n1_:=zq.mk (zt BK260.out)
       have n2_:=zq.mk (qe HB.out)
       clear HO_261007
       clear BK260
       clear HB
       have HO_261007:=n0_
       have BK260:=n1_
       have HB:=n2_
       clear n0_ n1_ n2_
       have p261:0≤(0:Int):=(by omega)
       have q261:0<(l0_7.length:Int):=dt
       obtain ⟨ad261,A261_7,c261_7,e261,hx261_0,hx261_1,hx261_2,hx261_3,hx261_4,hx261_5,hx261_6,hx261_7,hl261_7,hi261_7⟩:=zxc (Kd.zxx HO_261007.out).2.2 0 p261 q261
       cases e261
       obtain ⟨ce261,hce261,hMe261,hcc261⟩:=Kd.V_get HO_261007.out z33 0 p261 (by first|exact q261|exact dt|(have e_:=(Kd.zxx HO_261007.out).1;omega))
       obtain ⟨ua261_7,uc261_7,rfl,ul261_7,ge261_7⟩:=k33_openF hMe261
       have hv261_7:=hcc261 7 _ rfl
       rw [zju _ _ 7 (by omega)] at hv261_7
       replace hv261_7:=Option.some.inj (hv261_7.symm.trans hx261_7)
       injection hv261_7 with hva_ hvn_ hvc_
       rw [hva_] at ge261_7
       rw [hvc_] at ul261_7
       have HL261_7:=zq.mk (show Kd.V k33 33 _ w.heap.size _ _ ((zg l0_7 0).f5) from Kd.V_mk ul261_7 ge261_7)
       clear hva_ hvn_ hvc_ ge261_7 ul261_7
       clear hcc261 hce261
       have qi261:(0<l0_7.length)=True:=eq_true (by omega)
       (try rw [show((0:Int)).toNat=0 from rfl] at hx261_0)
       (try rw [show 0 * 8=0 from rfl] at hx261_0)
       (try rw [Addr.add_zero'] at hx261_0)
       (try rw [show((0:Int)).toNat=0 from rfl] at hx261_1)
       (try rw [show 0 * 8=0 from rfl] at hx261_1)
       (try rw [Addr.add_zero'] at hx261_1)
       (try rw [show((0:Int)).toNat=0 from rfl] at hx261_2)
       (try rw [show 0 * 8=0 from rfl] at hx261_2)
       (try rw [Addr.add_zero'] at hx261_2)
       (try rw [show((0:Int)).toNat=0 from rfl] at hx261_3)
       (try rw [show 0 * 8=0 from rfl] at hx261_3)
       (try rw [Addr.add_zero'] at hx261_3)
       (try rw [show((0:Int)).toNat=0 from rfl] at hx261_4)
       (try rw [show 0 * 8=0 from rfl] at hx261_4)
       (try rw [Addr.add_zero'] at hx261_4)
       (try rw [show((0:Int)).toNat=0 from rfl] at hx261_5)
       (try rw [show 0 * 8=0 from rfl] at hx261_5)
       (try rw [Addr.add_zero'] at hx261_5)
       (try rw [show((0:Int)).toNat=0 from rfl] at hx261_6)
       (try rw [show 0 * 8=0 from rfl] at hx261_6)
       (try rw [Addr.add_zero'] at hx261_6)
       (try rw [show((0:Int)).toNat=0 from rfl] at hx261_7)
       (try rw [show 0 * 8=0 from rfl] at hx261_7)
       (try rw [Addr.add_zero'] at hx261_7)
       have HR261_7:=zq.mk hi261_7
       have HC261_7:=zq.mk hl261_7
       clear hi261_7 hl261_7
       replace p261:=eq_true p261
       replace q261:=eq_true q261
       have p265:0≤(1:Int):=(by omega)
       have q265:1<(l0_7.length:Int):=dt
       obtain ⟨ad265,A265_7,c265_7,e265,hx265_0,hx265_1,hx265_2,hx265_3,hx265_4,hx265_5,hx265_6,hx265_7,hl265_7,hi265_7⟩:=zxc (Kd.zxx HO_261007.out).2.2 1 p265 q265
       obtain rfl:ad261=ad265:=(by injection e265)
       obtain ⟨ce265,hce265,hMe265,hcc265⟩:=Kd.V_get HO_261007.out z33 1 p265 (by first|exact q265|exact dt|(have e_:=(Kd.zxx HO_261007.out).1;omega))
       obtain ⟨ua265_7,uc265_7,rfl,ul265_7,ge265_7⟩:=k33_openF hMe265
       have hv265_7:=hcc265 7 _ rfl
       rw [zju _ _ 7 (by omega)] at hv265_7
       replace hv265_7:=Option.some.inj (hv265_7.symm.trans hx265_7)
       injection hv265_7 with hva_ hvn_ hvc_
       rw [hva_] at ge265_7
       rw [hvc_] at ul265_7
       have HL265_7:=zq.mk (show Kd.V k33 33 _ w.heap.size _ _ ((zg l0_7 1).f5) from Kd.V_mk ul265_7 ge265_7)
       clear hva_ hvn_ hvc_ ge265_7 ul265_7
       clear hcc265 hce265
       (try simp only [show(1:Int).toNat=1 from rfl,Nat.reduceMul,Nat.reduceEqDiff,Go.Addr.add, ↓reduceIte] at hx265_0)
       (try simp only [show(1:Int).toNat=1 from rfl,Nat.reduceMul,Nat.reduceEqDiff,Go.Addr.add, ↓reduceIte] at hx265_1)
       (try simp only [show(1:Int).toNat=1 from rfl,Nat.reduceMul,Nat.reduceEqDiff,Go.Addr.add, ↓reduceIte] at hx265_2)
       (try simp only [show(1:Int).toNat=1 from rfl,Nat.reduceMul,Nat.reduceEqDiff,Go.Addr.add, ↓reduceIte] at hx265_3)
       (try simp only [show(1:Int).toNat=1 from rfl,Nat.reduceMul,Nat.reduceEqDiff,Go.Addr.add, ↓reduceIte] at hx265_4)
       (try simp only [show(1:Int).toNat=1 from rfl,Nat.reduceMul,Nat.reduceEqDiff,Go.Addr.add, ↓reduceIte] at hx265_5)
       (try simp only [show(1:Int).toNat=1 from rfl,Nat.reduceMul,Nat.reduceEqDiff,Go.Addr.add, ↓reduceIte] at hx265_6)
       (try simp only [show(1:Int).toNat=1 from rfl,Nat.reduceMul,Nat.reduceEqDiff,Go.Addr.add, ↓reduceIte] at hx265_7)
       have qi265:(1<l0_7.length)=True:=eq_true (by omega)
       (try rw [show((1:Int)).toNat=1 from rfl] at hx265_0)
       (try rw [show 1 * 8=8 from rfl] at hx265_0)
       (try rw [show((1:Int)).toNat=1 from rfl] at hx265_1)
       (try rw [show 1 * 8=8 from rfl] at hx265_1)
       (try rw [show((1:Int)).toNat=1 from rfl] at hx265_2)
       (try rw [show 1 * 8=8 from rfl] at hx265_2)
       (try rw [show((1:Int)).toNat=1 from rfl] at hx265_3)
       (try rw [show 1 * 8=8 from rfl] at hx265_3)
       (try rw [show((1:Int)).toNat=1 from rfl] at hx265_4)
       (try rw [show 1 * 8=8 from rfl] at hx265_4)
       (try rw [show((1:Int)).toNat=1 from rfl] at hx265_5)
       (try rw [show 1 * 8=8 from rfl] at hx265_5)
       (try rw [show((1:Int)).toNat=1 from rfl] at hx265_6)
       (try rw [show 1 * 8=8 from rfl] at hx265_6)
       (try rw [show((1:Int)).toNat=1 from rfl] at hx265_7)
       (try rw [show 1 * 8=8 from rfl] at hx265_7)
       have HR265_7:=zq.mk hi265_7
       have HC265_7:=zq.mk hl265_7
       clear hi265_7 hl265_7
       replace p265:=eq_true p265
       replace q265:=eq_true q265
       refine start_ (n:=16) (S:=fun w'=>w'.cell? ⟨gb260,0,none⟩=some (.int .i64 a0_0)∧w'.cell? ⟨gb260,1,none⟩=some (.int .i64 a0_1)∧w'.cell? ⟨gb260,2,none⟩=some (.int .i64 a0_2)∧w'.cell? ⟨gb260,3,none⟩=some (.string a0_3)∧w'.cell? ⟨gb260,4,none⟩=some (.string a0_4)∧w'.cell? ⟨gb260,5,none⟩=some (.string a0_5)∧w'.cell? ⟨gb260,6,none⟩=some (.int .i64 a0_6)∧w'.cell? ⟨gb260,7,none⟩=some (.slice (some ad261) l0_7.length c0_7)∧w'.cell? ad261=some (.int .i64 ((zg l0_7 0).f0))∧w'.cell? ⟨ad261.block,ad261.off+1,none⟩=some (.int .i64 ((zg l0_7 0).f1.f0))∧w'.cell? ⟨ad261.block,ad261.off+2,none⟩=some (.int .i64 ((zg l0_7 0).f1.f1))∧w'.cell? ⟨ad261.block,ad261.off+3,none⟩=some (.string ((zg l0_7 0).f1.f2))∧w'.cell? ⟨ad261.block,ad261.off+4,none⟩=some (.string ((zg l0_7 0).f2))∧w'.cell? ⟨ad261.block,ad261.off+5,none⟩=some (.string ((zg l0_7 0).f3))∧w'.cell? ⟨ad261.block,ad261.off+6,none⟩=some (.int .i64 ((zg l0_7 0).f4))∧w'.cell? ⟨ad261.block,ad261.off+7,none⟩=some (.slice A261_7 ((zg l0_7 0).f5).length c261_7)∧w'.cell? ⟨ad261.block,ad261.off+8,none⟩=some (.int .i64 ((zg l0_7 1).f0))∧w'.cell? ⟨ad261.block,ad261.off+8+1,none⟩=some (.int .i64 ((zg l0_7 1).f1.f0))∧w'.cell? ⟨ad261.block,ad261.off+8+2,none⟩=some (.int .i64 ((zg l0_7 1).f1.f1))∧w'.cell? ⟨ad261.block,ad261.off+8+3,none⟩=some (.string ((zg l0_7 1).f1.f2))∧w'.cell? ⟨ad261.block,ad261.off+8+4,none⟩=some (.string ((zg l0_7 1).f2))∧w'.cell? ⟨ad261.block,ad261.off+8+5,none⟩=some (.string ((zg l0_7 1).f3))∧w'.cell? ⟨ad261.block,ad261.off+8+6,none⟩=some (.int .i64 ((zg l0_7 1).f4))∧w'.cell? ⟨ad261.block,ad261.off+8+7,none⟩=some (.slice A265_7 ((zg l0_7 1).f5).length c265_7)) (ds := [14]) #[false,false,false,false,false,false,false,false,false,false,false,false,false,false,false,false] (by kernel_rfl) rfl rfl ⟨(zo BK260.out 0).trans rfl,(zo BK260.out 1).trans rfl,(zo BK260.out 2).trans rfl,(zo BK260.out 3).trans rfl,(zo BK260.out 4).trans rfl,(zo BK260.out 5).trans rfl,(zo BK260.out 6).trans rfl,(zo BK260.out 7).trans rfl,hx261_0,hx261_1,hx261_2,hx261_3,hx261_4,hx261_5,hx261_6,hx261_7,hx265_0,hx265_1,hx265_2,hx265_3,hx265_4,hx265_5,hx265_6,hx265_7⟩ (fun hHeld=>?_);refine zkg qz.tab2 qz.bits2 (fun HT_ HW_=>?_)
       generalize wc.drew=w15 at HO_261007 BK260 HB HL261_7 HL265_7 HR261_7 HR265_7 hx261_0 hx261_1 hx261_2 hx261_3 hx261_4 hx261_5 hx261_6 hx261_7 hx265_0 hx265_1 hx265_2 hx265_3 hx265_4 hx265_5 hx265_6 hx265_7 hHeld ⊢
       refine zj9 (i:=0) (N:=some 18) (v:=?_) (a':=?_) #[true,false,false,false,false,false,false,false,false,false,false,false,false,false,false,false] rfl rfl (zjw HT_.out (by kernel_rfl)) (fun _ _ _ h=>h) (Or.inl ⟨by rfl,?_⟩) ?_ ?_
       rotate_left
       ·intro w'
        go_simp
        with_reducible rfl
       rotate_left
       ·simp only [Act.put,List.setIfInBounds_toArray,List.set_cons_zero,List.set_cons_succ,zqw,zqx]
        rfl
       refine zj9 (i:=4) (N:=some 22) (v:=?_) (a':=?_) #[true,false,false,false,true,false,false,false,false,false,false,false,false,false,false,false] rfl rfl (zjw HT_.out (by kernel_rfl)) (fun _ _ _ h=>h) (Or.inl ⟨by rfl,?_⟩) ?_ ?_
       rotate_left
       ·intro w'
        go_simp
        with_reducible rfl
       rotate_left
       ·simp only [Act.put,List.setIfInBounds_toArray,List.set_cons_zero,List.set_cons_succ,zqw,zqx]
        rfl
       refine zj9 (i:=5) (N:=some 23) (v:=?_) (a':=?_) #[true,false,false,false,true,true,false,false,false,false,false,false,false,false,false,false] rfl rfl (zjw HT_.out (by kernel_rfl)) (fun _ _ _ h=>h) (Or.inl ⟨by rfl,?_⟩) ?_ ?_
       rotate_left
       ·intro w'
        go_simp
        with_reducible rfl
       rotate_left
       ·simp only [Act.put,List.setIfInBounds_toArray,List.set_cons_zero,List.set_cons_succ,zqw,zqx]
        rfl
       refine zj9 (i:=7) (N:=some 25) (v:=?_) (a':=?_) #[true,false,false,false,true,true,false,true,false,false,false,false,false,false,false,false] rfl rfl (zjw HT_.out (by kernel_rfl)) (fun _ _ _ h=>h) (Or.inl ⟨by rfl,?_⟩) ?_ ?_
       rotate_left
       ·intro w'
        go_simp
        with_reducible rfl
       rotate_left
       ·simp only [Act.put,List.setIfInBounds_toArray,List.set_cons_zero,List.set_cons_succ,zqw,zqx]
        rfl
       refine zj9 (i:=11) (N:=some 29) (v:=?_) (a':=?_) #[true,false,false,false,true,true,false,true,false,false,false,true,false,false,false,false] rfl rfl (zjw HT_.out (by kernel_rfl)) (fun _ _ _ h=>h) (Or.inl ⟨by rfl,?_⟩) ?_ ?_
       rotate_left
       ·intro w'
        go_simp
        with_reducible rfl
       rotate_left
       ·simp only [Act.put,List.setIfInBounds_toArray,List.set_cons_zero,List.set_cons_succ,zqw,zqx]
        rfl
       refine zj9 (i:=12) (N:=some 30) (v:=?_) (a':=?_) #[true,false,false,false,true,true,false,true,false,false,false,true,true,false,false,false] rfl rfl (zjw HT_.out (by kernel_rfl)) (fun _ _ _ h=>h) (Or.inl ⟨by rfl,?_⟩) ?_ ?_
       rotate_left
       ·intro w'
        go_simp
        with_reducible rfl
       rotate_left
       ·simp only [Act.put,List.setIfInBounds_toArray,List.set_cons_zero,List.set_cons_succ,zqw,zqx]
        rfl
       refine take_ (i:=1) (N:=some 19) (v:=?_) (a':=?_) #[true,true,false,false,true,true,false,true,false,false,false,true,true,false,false,false] rfl rfl (zxk HT_.out HW_.out (by kernel_rfl)) (fun _ _ _ h=>h) (Or.inl ⟨by rfl,?_⟩) hHeld ?_ ?_
       rotate_left
       ·rintro w' ⟨s0,s1,s2,s3,s4,s5,s6,s7,s8,s9,s10,s11,s12,s13,s14,s15,s16,s17,s18,s19,s20,s21,s22,s23⟩
        go_simp
        with_reducible rfl
       rotate_left
       ·simp only [Act.put,List.setIfInBounds_toArray,List.set_cons_zero,List.set_cons_succ,zqw,zqx]
        rfl
       refine zj9 (i:=2) (N:=some 20) (v:=?_) (a':=?_) #[true,true,true,false,true,true,false,true,false,false,false,true,true,false,false,false] rfl rfl (zjw HT_.out (by kernel_rfl)) (fun _ _ _ h=>h) (Or.inl ⟨by rfl,?_⟩) ?_ ?_
       rotate_left
       ·intro w'
        go_simp
        with_reducible rfl
       rotate_left
       ·simp only [Act.put,List.setIfInBounds_toArray,List.set_cons_zero,List.set_cons_succ,zqw,zqx]
        rfl
       refine take_ (i:=3) (N:=some 21) (v:=?_) (a':=?_) #[true,true,true,true,true,true,false,true,false,false,false,true,true,false,false,false] rfl rfl (zxk HT_.out HW_.out (by kernel_rfl)) (fun _ _ _ h=>h) (Or.inl ⟨by rfl,?_⟩) hHeld ?_ ?_
       rotate_left
       ·rintro w' ⟨s0,s1,s2,s3,s4,s5,s6,s7,s8,s9,s10,s11,s12,s13,s14,s15,s16,s17,s18,s19,s20,s21,s22,s23⟩
        go_simp
        with_reducible rfl
       rotate_left
       ·simp only [Act.put,List.setIfInBounds_toArray,List.set_cons_zero,List.set_cons_succ,zqw,zqx]
        rfl
       refine take_ (i:=8) (N:=some 26) (v:=?_) (a':=?_) #[true,true,true,true,true,true,false,true,true,false,false,true,true,false,false,false] rfl rfl (zxk HT_.out HW_.out (by kernel_rfl)) (fun _ _ _ h=>h) (Or.inl ⟨by rfl,?_⟩) hHeld ?_ ?_
       rotate_left
       ·rintro w' ⟨s0,s1,s2,s3,s4,s5,s6,s7,s8,s9,s10,s11,s12,s13,s14,s15,s16,s17,s18,s19,s20,s21,s22,s23⟩
        go_simp
        with_reducible rfl
       rotate_left
       ·simp only [Act.put,List.setIfInBounds_toArray,List.set_cons_zero,List.set_cons_succ,zqw,zqx]
        rfl
       refine zj9 (i:=9) (N:=some 27) (v:=?_) (a':=?_) #[true,true,true,true,true,true,false,true,true,true,false,true,true,false,false,false] rfl rfl (zjw HT_.out (by kernel_rfl)) (fun _ _ _ h=>h) (Or.inl ⟨by rfl,?_⟩) ?_ ?_
       rotate_left
       ·intro w'
        go_simp
        with_reducible rfl
       rotate_left
       ·simp only [Act.put,List.setIfInBounds_toArray,List.set_cons_zero,List.set_cons_succ,zqw,zqx]
        rfl
       refine take_ (i:=10) (N:=some 28) (v:=?_) (a':=?_) #[true,true,true,true,true,true,false,true,true,true,true,true,true,false,false,false] rfl rfl (zxk HT_.out HW_.out (by kernel_rfl)) (fun _ _ _ h=>h) (Or.inl ⟨by rfl,?_⟩) hHeld ?_ ?_
       rotate_left
       ·rintro w' ⟨s0,s1,s2,s3,s4,s5,s6,s7,s8,s9,s10,s11,s12,s13,s14,s15,s16,s17,s18,s19,s20,s21,s22,s23⟩
        go_simp
        with_reducible rfl
       rotate_left
       ·simp only [Act.put,List.setIfInBounds_toArray,List.set_cons_zero,List.set_cons_succ,zqw,zqx]
        rfl
       refine one_ (i:=6) (N:=some 24) #[true,true,true,true,true,true,true,true,true,true,true,true,true,false,false,false] rfl rfl (zkl HT_.out (by kernel_rfl)) (by decide) (fun K hK=>?_)
       refine goes_ Tryd.func54 (by kernel_rfl) rfl #[.agg #[.int .i64 ((zg l0_7 0).f0),.int .i64 ((zg l0_7 0).f1.f0),.int .i64 ((zg l0_7 0).f1.f1),.string ((zg l0_7 0).f1.f2),.string ((zg l0_7 0).f2),.string ((zg l0_7 0).f3),.int .i64 ((zg l0_7 0).f4),.slice A261_7 ((zg l0_7 0).f5).length c261_7],.int .i64 (wrap64 (a1 - 1))] (by rfl) rfl rfl gs ?_
       with_reducible refine(ih kj2 (by have:=HJ2.out;omega) ((zg l0_7 0).f0) ((zg l0_7 0).f1.f0) ((zg l0_7 0).f1.f1) ((zg l0_7 0).f1.f2) ((zg l0_7 0).f2) ((zg l0_7 0).f3) ((zg l0_7 0).f4) (fun k_=>((P0_7_ k_∨w.heap.size≤k_)∧k_≠gb260)) _ _ ((zg l0_7 0).f5) (wrap64 (a1 - 1)) t262 _ ?side1 A11.out).mono ?_
       (case side1=>exact HL261_7.out)
       rintro e w16 ⟨v263,rfl,ho0,hb⟩
       have HS8_:=(hb.cell (World.block_lt_of_cell? _ _ (hHeld.2.2.2.2.2.2.2.2.1))).trans (hHeld.2.2.2.2.2.2.2.2.1)
       have HS9_:=(hb.cell (World.block_lt_of_cell? _ _ (hHeld.2.2.2.2.2.2.2.2.2.1))).trans (hHeld.2.2.2.2.2.2.2.2.2.1)
       have HS10_:=(hb.cell (World.block_lt_of_cell? _ _ (hHeld.2.2.2.2.2.2.2.2.2.2.1))).trans (hHeld.2.2.2.2.2.2.2.2.2.2.1)
       have HS11_:=(hb.cell (World.block_lt_of_cell? _ _ (hHeld.2.2.2.2.2.2.2.2.2.2.2.1))).trans (hHeld.2.2.2.2.2.2.2.2.2.2.2.1)
       have HS12_:=(hb.cell (World.block_lt_of_cell? _ _ (hHeld.2.2.2.2.2.2.2.2.2.2.2.2.1))).trans (hHeld.2.2.2.2.2.2.2.2.2.2.2.2.1)
       have HS13_:=(hb.cell (World.block_lt_of_cell? _ _ (hHeld.2.2.2.2.2.2.2.2.2.2.2.2.2.1))).trans (hHeld.2.2.2.2.2.2.2.2.2.2.2.2.2.1)
       have HS14_:=(hb.cell (World.block_lt_of_cell? _ _ (hHeld.2.2.2.2.2.2.2.2.2.2.2.2.2.2.1))).trans (hHeld.2.2.2.2.2.2.2.2.2.2.2.2.2.2.1)
       have HS15_:=(hb.cell (World.block_lt_of_cell? _ _ (hHeld.2.2.2.2.2.2.2.2.2.2.2.2.2.2.2.1))).trans (hHeld.2.2.2.2.2.2.2.2.2.2.2.2.2.2.2.1)
       have HS16_:=(hb.cell (World.block_lt_of_cell? _ _ (hHeld.2.2.2.2.2.2.2.2.2.2.2.2.2.2.2.2.1))).trans (hHeld.2.2.2.2.2.2.2.2.2.2.2.2.2.2.2.2.1)
       have HS17_:=(hb.cell (World.block_lt_of_cell? _ _ (hHeld.2.2.2.2.2.2.2.2.2.2.2.2.2.2.2.2.2.1))).trans (hHeld.2.2.2.2.2.2.2.2.2.2.2.2.2.2.2.2.2.1)
       have HS18_:=(hb.cell (World.block_lt_of_cell? _ _ (hHeld.2.2.2.2.2.2.2.2.2.2.2.2.2.2.2.2.2.2.1))).trans (hHeld.2.2.2.2.2.2.2.2.2.2.2.2.2.2.2.2.2.2.1)
       have HS19_:=(hb.cell (World.block_lt_of_cell? _ _ (hHeld.2.2.2.2.2.2.2.2.2.2.2.2.2.2.2.2.2.2.2.1))).trans (hHeld.2.2.2.2.2.2.2.2.2.2.2.2.2.2.2.2.2.2.2.1)
       have HS20_:=(hb.cell (World.block_lt_of_cell? _ _ (hHeld.2.2.2.2.2.2.2.2.2.2.2.2.2.2.2.2.2.2.2.2.1))).trans (hHeld.2.2.2.2.2.2.2.2.2.2.2.2.2.2.2.2.2.2.2.2.1)
       have HS21_:=(hb.cell (World.block_lt_of_cell? _ _ (hHeld.2.2.2.2.2.2.2.2.2.2.2.2.2.2.2.2.2.2.2.2.2.1))).trans (hHeld.2.2.2.2.2.2.2.2.2.2.2.2.2.2.2.2.2.2.2.2.2.1)
       have HS22_:=(hb.cell (World.block_lt_of_cell? _ _ (hHeld.2.2.2.2.2.2.2.2.2.2.2.2.2.2.2.2.2.2.2.2.2.2.1))).trans (hHeld.2.2.2.2.2.2.2.2.2.2.2.2.2.2.2.2.2.2.2.2.2.2.1)
       have HS23_:=(hb.cell (World.block_lt_of_cell? _ _ (hHeld.2.2.2.2.2.2.2.2.2.2.2.2.2.2.2.2.2.2.2.2.2.2.2))).trans (hHeld.2.2.2.2.2.2.2.2.2.2.2.2.2.2.2.2.2.2.2.2.2.2.2)
       refine⟨_,rfl,?_⟩
       have n0_:=zq.mk (Kd.zj8 (Kd.vu HO_261007.out) (Kd.zxz ho0) hb)
       have n1_:=zq.mk (Kd.zj8 (Kd.vu HL261_7.out) (Kd.zxz ho0) hb)
       have n2_:=zq.mk (Kd.zj8 (Kd.vu HL265_7.out) (Kd.zxz ho0) hb)
       have n3_:=zq.mk (Kd.zkq (Kd.zxf (ok':=fun k_=>(P0_7_ k_∨w.heap.size≤k_)∧k_≠gb260) ho0 (fun k_ hk_=>⟨Or.elim hk_ (fun hs_=>hs_.1) (fun hn_=>(.inr (Nat.le_trans (zv bw) hn_))),Or.elim hk_ (fun hs_=>hs_.2) (fun hn_=>(Kd.freshB (g:=gb260) (o:=.cells #[.int .i64 a0_0,.int .i64 a0_1,.int .i64 a0_2,.string a0_3,.string a0_4,.string a0_5,.int .i64 a0_6,.slice (some ad261) l0_7.length c0_7] 33 (0,0)) (up BK260.out) k_ hn_))⟩)) (zv bw))
       have n4_:=zq.mk (zf (g:=gb260) (o:=.cells #[.int .i64 a0_0,.int .i64 a0_1,.int .i64 a0_2,.string a0_3,.string a0_4,.string a0_5,.int .i64 a0_6,.slice (some ad261) l0_7.length c0_7] 33 (0,0)) (up BK260.out) hb)
       have n5_:=zq.mk (Kd.zqe (by repeat(first|(with_reducible exact HR261_7.out)|(with_reducible refine Kd.C_alloc ?_ _)|(with_reducible refine Kd.C_drewN ?_ _)|(with_reducible refine Kd.C_drew ?_)|exact HR261_7.out)) hb)
       have n6_:=zq.mk (Kd.zqe (by repeat(first|(with_reducible exact HR265_7.out)|(with_reducible refine Kd.C_alloc ?_ _)|(with_reducible refine Kd.C_drewN ?_ _)|(with_reducible refine Kd.C_drew ?_)|exact HR265_7.out)) hb)
       have n7_:=zq.mk (zb bw hb)
       clear HO_261007
       clear HL261_7
       clear HL265_7
       clear BK260
       clear HR261_7
       clear HR265_7
       clear HB
       have HO_261007:=n0_
       have HL261_7:=n1_
       have HL265_7:=n2_
       have HO264:=n3_
       have BK260:=n4_
       have HR261_7:=n5_
       have HR265_7:=n6_
       have HB:=n7_
       clear n0_ n1_ n2_ n3_ n4_ n5_ n6_ n7_
       (try clear hb)
       (try clear hb2)
       (try clear hk)
       (try clear hi)
       (try clear ho0)
       refine hK.out _ _ ⟨(zo BK260.out 0).trans rfl,(zo BK260.out 1).trans rfl,(zo BK260.out 2).trans rfl,(zo BK260.out 3).trans rfl,(zo BK260.out 4).trans rfl,(zo BK260.out 5).trans rfl,(zo BK260.out 6).trans rfl,(zo BK260.out 7).trans rfl,HS8_,HS9_,HS10_,HS11_,HS12_,HS13_,HS14_,HS15_,HS16_,HS17_,HS18_,HS19_,HS20_,HS21_,HS22_,HS23_⟩ (fun hHeld=>?_)
       clear hK K
       refine norm_ (a':=?_) ?_ ?_
       rotate_left
       ·show Act.put _ (some 24) _=_
        simp only [Act.put,List.setIfInBounds_toArray,List.set_cons_zero,List.set_cons_succ,zqw,zqx]
        rfl
       refine one_ (i:=13) (N:=some 31) #[true,true,true,true,true,true,true,true,true,true,true,true,true,true,false,false] rfl rfl (zkl HT_.out (by kernel_rfl)) (by decide) (fun K hK=>?_)
       refine goes_ Tryd.func54 (by kernel_rfl) rfl #[.agg #[.int .i64 ((zg l0_7 1).f0),.int .i64 ((zg l0_7 1).f1.f0),.int .i64 ((zg l0_7 1).f1.f1),.string ((zg l0_7 1).f1.f2),.string ((zg l0_7 1).f2),.string ((zg l0_7 1).f3),.int .i64 ((zg l0_7 1).f4),.slice A265_7 ((zg l0_7 1).f5).length c265_7],.int .i64 (wrap64 (a1 - 1))] (by rfl) rfl rfl gs ?_
       with_reducible refine(ih kj2 (by have:=HJ2.out;omega) ((zg l0_7 1).f0) ((zg l0_7 1).f1.f0) ((zg l0_7 1).f1.f1) ((zg l0_7 1).f1.f2) ((zg l0_7 1).f2) ((zg l0_7 1).f3) ((zg l0_7 1).f4) (fun k_=>(((P0_7_ k_∨w.heap.size≤k_)∧k_≠gb260)∧some k_≠(v263:Value).ownBlock)) _ _ ((zg l0_7 1).f5) (wrap64 (a1 - 1)) t266 _ ?side1 A13.out).mono ?_
       (case side1=>exact HL265_7.out)
       rintro e w17 ⟨v267,rfl,ho0,hb⟩
       have HS8_:=(hb.cell (World.block_lt_of_cell? _ _ (hHeld.2.2.2.2.2.2.2.2.1))).trans (hHeld.2.2.2.2.2.2.2.2.1)
       have HS9_:=(hb.cell (World.block_lt_of_cell? _ _ (hHeld.2.2.2.2.2.2.2.2.2.1))).trans (hHeld.2.2.2.2.2.2.2.2.2.1)
       have HS10_:=(hb.cell (World.block_lt_of_cell? _ _ (hHeld.2.2.2.2.2.2.2.2.2.2.1))).trans (hHeld.2.2.2.2.2.2.2.2.2.2.1)
       have HS11_:=(hb.cell (World.block_lt_of_cell? _ _ (hHeld.2.2.2.2.2.2.2.2.2.2.2.1))).trans (hHeld.2.2.2.2.2.2.2.2.2.2.2.1)
       have HS12_:=(hb.cell (World.block_lt_of_cell? _ _ (hHeld.2.2.2.2.2.2.2.2.2.2.2.2.1))).trans (hHeld.2.2.2.2.2.2.2.2.2.2.2.2.1)
       have HS13_:=(hb.cell (World.block_lt_of_cell? _ _ (hHeld.2.2.2.2.2.2.2.2.2.2.2.2.2.1))).trans (hHeld.2.2.2.2.2.2.2.2.2.2.2.2.2.1)
       have HS14_:=(hb.cell (World.block_lt_of_cell? _ _ (hHeld.2.2.2.2.2.2.2.2.2.2.2.2.2.2.1))).trans (hHeld.2.2.2.2.2.2.2.2.2.2.2.2.2.2.1)
       have HS15_:=(hb.cell (World.block_lt_of_cell? _ _ (hHeld.2.2.2.2.2.2.2.2.2.2.2.2.2.2.2.1))).trans (hHeld.2.2.2.2.2.2.2.2.2.2.2.2.2.2.2.1)
       have HS16_:=(hb.cell (World.block_lt_of_cell? _ _ (hHeld.2.2.2.2.2.2.2.2.2.2.2.2.2.2.2.2.1))).trans (hHeld.2.2.2.2.2.2.2.2.2.2.2.2.2.2.2.2.1)
       have HS17_:=(hb.cell (World.block_lt_of_cell? _ _ (hHeld.2.2.2.2.2.2.2.2.2.2.2.2.2.2.2.2.2.1))).trans (hHeld.2.2.2.2.2.2.2.2.2.2.2.2.2.2.2.2.2.1)
       have HS18_:=(hb.cell (World.block_lt_of_cell? _ _ (hHeld.2.2.2.2.2.2.2.2.2.2.2.2.2.2.2.2.2.2.1))).trans (hHeld.2.2.2.2.2.2.2.2.2.2.2.2.2.2.2.2.2.2.1)
       have HS19_:=(hb.cell (World.block_lt_of_cell? _ _ (hHeld.2.2.2.2.2.2.2.2.2.2.2.2.2.2.2.2.2.2.2.1))).trans (hHeld.2.2.2.2.2.2.2.2.2.2.2.2.2.2.2.2.2.2.2.1)
       have HS20_:=(hb.cell (World.block_lt_of_cell? _ _ (hHeld.2.2.2.2.2.2.2.2.2.2.2.2.2.2.2.2.2.2.2.2.1))).trans (hHeld.2.2.2.2.2.2.2.2.2.2.2.2.2.2.2.2.2.2.2.2.1)
       have HS21_:=(hb.cell (World.block_lt_of_cell? _ _ (hHeld.2.2.2.2.2.2.2.2.2.2.2.2.2.2.2.2.2.2.2.2.2.1))).trans (hHeld.2.2.2.2.2.2.2.2.2.2.2.2.2.2.2.2.2.2.2.2.2.1)
       have HS22_:=(hb.cell (World.block_lt_of_cell? _ _ (hHeld.2.2.2.2.2.2.2.2.2.2.2.2.2.2.2.2.2.2.2.2.2.2.1))).trans (hHeld.2.2.2.2.2.2.2.2.2.2.2.2.2.2.2.2.2.2.2.2.2.2.1)
       have HS23_:=(hb.cell (World.block_lt_of_cell? _ _ (hHeld.2.2.2.2.2.2.2.2.2.2.2.2.2.2.2.2.2.2.2.2.2.2.2))).trans (hHeld.2.2.2.2.2.2.2.2.2.2.2.2.2.2.2.2.2.2.2.2.2.2.2)
       refine⟨_,rfl,?_⟩
       have n0_:=zq.mk (Kd.zj8 (Kd.vu HO_261007.out) (Kd.zxz ho0) hb)
       have n1_:=zq.mk (Kd.zj8 (Kd.vu HL261_7.out) (Kd.zxz ho0) hb)
       have n2_:=zq.mk (Kd.zj8 (Kd.vu HL265_7.out) (Kd.zxz ho0) hb)
       have n3_:=zq.mk (Kd.N_elder' (Kd.nu HO264.out) (Kd.zxz ho0) hb)
       have n4_:=zq.mk (Kd.zkq (Kd.zxf (ok':=fun k_=>(P0_7_ k_∨w.heap.size≤k_)∧some k_≠(v263:Value).ownBlock∧k_≠gb260) ho0 (fun k_ hk_=>⟨Or.elim hk_ (fun hs_=>hs_.1.1) (fun hn_=>(.inr (Nat.le_trans (zv bw) hn_))),Or.elim hk_ (fun hs_=>hs_.2) (fun hn_=>(Kd.fresh' (Kd.N_lt (Kd.nu HO264.out)) k_ hn_)),Or.elim hk_ (fun hs_=>hs_.1.2) (fun hn_=>(Kd.freshB (g:=gb260) (o:=.cells #[.int .i64 a0_0,.int .i64 a0_1,.int .i64 a0_2,.string a0_3,.string a0_4,.string a0_5,.int .i64 a0_6,.slice (some ad261) l0_7.length c0_7] 33 (0,0)) (up BK260.out) k_ hn_))⟩)) (zv bw))
       have n5_:=zq.mk (zf (g:=gb260) (o:=.cells #[.int .i64 a0_0,.int .i64 a0_1,.int .i64 a0_2,.string a0_3,.string a0_4,.string a0_5,.int .i64 a0_6,.slice (some ad261) l0_7.length c0_7] 33 (0,0)) (up BK260.out) hb)
       have n6_:=zq.mk (Kd.zqe (by repeat(first|(with_reducible exact HR261_7.out)|(with_reducible refine Kd.C_alloc ?_ _)|(with_reducible refine Kd.C_drewN ?_ _)|(with_reducible refine Kd.C_drew ?_)|exact HR261_7.out)) hb)
       have n7_:=zq.mk (Kd.zqe (by repeat(first|(with_reducible exact HR265_7.out)|(with_reducible refine Kd.C_alloc ?_ _)|(with_reducible refine Kd.C_drewN ?_ _)|(with_reducible refine Kd.C_drew ?_)|exact HR265_7.out)) hb)
       have n8_:=zq.mk (zb bw hb)
       clear HO_261007
       clear HL261_7
       clear HL265_7
       clear HO264
       clear BK260
       clear HR261_7
       clear HR265_7
       clear HB
       have HO_261007:=n0_
       have HL261_7:=n1_
       have HL265_7:=n2_
       have HO264:=n3_
       have HO268:=n4_
       have BK260:=n5_
       have HR261_7:=n6_
       have HR265_7:=n7_
       have HB:=n8_
       clear n0_ n1_ n2_ n3_ n4_ n5_ n6_ n7_ n8_
       (try clear hb)
       (try clear hb2)
       (try clear hk)
       (try clear hi)
       (try clear ho0)
       obtain ⟨Ao19,co19,eo19⟩:=Kd.N_slice HO268.out
       (first|subst eo19|(injection eo19 with f1_ f2_ f3_;have f4_:=f1_.symm;have f5_:=f3_.symm;clear f1_ f2_ f3_;subst f4_;subst f5_))
       refine hK.out _ _ ⟨(zo BK260.out 0).trans rfl,(zo BK260.out 1).trans rfl,(zo BK260.out 2).trans rfl,(zo BK260.out 3).trans rfl,(zo BK260.out 4).trans rfl,(zo BK260.out 5).trans rfl,(zo BK260.out 6).trans rfl,(zo BK260.out 7).trans rfl,HS8_,HS9_,HS10_,HS11_,HS12_,HS13_,HS14_,HS15_,HS16_,HS17_,HS18_,HS19_,HS20_,HS21_,HS22_,HS23_⟩ (fun hHeld=>?_)
       clear hK K
       refine norm_ (a':=?_) ?_ ?_
       rotate_left
       ·show Act.put _ (some 31) _=_
        simp only [Act.put,List.setIfInBounds_toArray,List.set_cons_zero,List.set_cons_succ,zqw,zqx]
        rfl
       refine last_ (i:=14) (N:=some 32) #[true,true,true,true,true,true,true,true,true,true,true,true,true,true,true,false] rfl rfl (zkl HT_.out (by kernel_rfl)) (by decide) (fun K hK=>?_)
       refine Kd.zx0 k33 (w0:=w) w.heap.size (by rfl) (.tmp 24) (.tmp 31) 31 33 (.agg #[(.int .i64 0),(.int .i64 0),(.int .i64 0),(.string ⟨#[]⟩),(.string ⟨#[]⟩),(.string ⟨#[]⟩),(.int .i64 0),(.slice none 0 0)]) 104 rfl Tryd.underlying31 info33 rfl (by decide) (by omega) v263 t262 t266 _ _ _ (fun k_=>(P0_7_ k_∨w.heap.size≤k_)∧k_≠gb260) (fun k_=>((fun k_=>(P0_7_ k_∨w.heap.size≤k_)∧k_≠gb260)) k_∧some k_≠(v263:Value).ownBlock) rfl rfl ?aO ?aR (fun _ hk=>hk) ?aF ?aB ?aS ?aL ?_
       (case aR=>exact(by skip;exact Kd.N_F (Kd.zxf (ok':=(fun k_=>((fun k_=>(P0_7_ k_∨w.heap.size≤k_)∧k_≠gb260)) k_∧some k_≠(v263:Value).ownBlock)) (HO268.out) (fun k_ hk=>⟨⟨hk.1,hk.2.2⟩,hk.2.1⟩))))
       (case aB=>exact bw)
       (case aF=>exact(fun k_ hk=>⟨(.inr (Nat.le_trans (zv bw) hk)),Kd.freshB (g:=gb260) (o:=.cells #[.int .i64 a0_0,.int .i64 a0_1,.int .i64 a0_2,.string a0_3,.string a0_4,.string a0_5,.int .i64 a0_6,.slice (some ad261) l0_7.length c0_7] 33 (0,0)) (up BK260.out) k_ hk⟩))
       (case aO=>exact(Kd.nu (Kd.zxf HO264.out (fun _ hk=>⟨hk.1.1,hk.1.2⟩))))
       (case aS=>exact(zv bw))
       (case aL=>have:=LMc14.out;omega)
       intro v270 w18 ho hb hg hat
       rw [← Ny269.out] at ho
       have n0_:=zq.mk (Kd.V_afterv (ok:=(fun k_=>(P0_7_ k_∨w.heap.size≤k_)∧some k_≠(.slice Ao19 t266.length co19:Value).ownBlock∧k_≠gb260)) (Kd.vu (Kd.zko HO_261007.out (fun _ hk=>⟨⟨hk.1.1.1,⟨hk.2,hk.1.1.2⟩⟩,hk.1.2⟩))) hg hat)
       have n1_:=zq.mk (blk_grown (g:=gb260) (o:=.cells #[.int .i64 a0_0,.int .i64 a0_1,.int .i64 a0_2,.string a0_3,.string a0_4,.string a0_5,.int .i64 a0_6,.slice (some ad261) l0_7.length c0_7] 33 (0,0)) (up BK260.out) hg (Kd.N_away HO264.out (fun _ hk=>hk.1.2)))
       have n2_:=zq.mk (Kd.V_afterv (ok:=(fun k_=>(P0_7_ k_∨w.heap.size≤k_)∧some k_≠(.slice Ao19 t266.length co19:Value).ownBlock∧k_≠gb260)) (Kd.vu (Kd.zko HL261_7.out (fun _ hk=>⟨⟨hk.1.1.1,⟨hk.2,hk.1.1.2⟩⟩,hk.1.2⟩))) hg hat)
       have n3_:=zq.mk (Kd.V_afterv (ok:=(fun k_=>(P0_7_ k_∨w.heap.size≤k_)∧some k_≠(.slice Ao19 t266.length co19:Value).ownBlock∧k_≠gb260)) (Kd.vu (Kd.zko HL265_7.out (fun _ hk=>⟨⟨hk.1.1.1,⟨hk.2,hk.1.1.2⟩⟩,hk.1.2⟩))) hg hat)
       have n4_:=zq.mk (Kd.N_afterv (ok:=(fun k_=>(P0_7_ k_∨w.heap.size≤k_)∧k_≠gb260)) (Kd.nu (Kd.zxf HO268.out (fun _ hk=>⟨⟨hk.1,hk.2.2⟩,hk.2.1⟩))) hg hat)
       have n5_:=zq.mk (hb)
       have n6_:=zq.mk (ho)
       clear HO_261007
       clear BK260
       clear HL261_7
       clear HL265_7
       clear HO268
       clear HB
       clear HO264
       have HO_261007:=n0_
       have BK260:=n1_
       have HL261_7:=n2_
       have HL265_7:=n3_
       have HO268:=n4_
       have HB:=n5_
       have HO271:=n6_
       clear n0_ n1_ n2_ n3_ n4_ n5_ n6_
       clear ho hb hg hat
       refine hK.out _ _ ?_
       clear hK K
       refine norm_ (a':=?_) ?_ ?_
       rotate_left
       ·show Act.put _ (some 32) _=_
        simp only [Act.put,List.setIfInBounds_toArray,List.set_cons_zero,List.set_cons_succ,zqw,zqx]
        rfl
       refine zj9 (i:=15) (N:=some 4) (v:=?_) (a':=?_) #[true,true,true,true,true,true,true,true,true,true,true,true,true,true,true,true] rfl rfl (zjw HT_.out (by kernel_rfl)) (fun _ _ _ h=>h) (Or.inl ⟨by rfl,?_⟩) ?_ ?_
       rotate_left
       ·intro w'
        go_simp
        with_reducible rfl
       rotate_left
       ·simp only [Act.put,List.setIfInBounds_toArray,List.set_cons_zero,List.set_cons_succ,zqw,zqx]
        rfl
       refine done_ (done_of HT_.out (by kernel_rfl)) ?_
       try go_wp2
       go_ret
       exact⟨_,by first|rfl|(simp [zk,zx] <;> rfl)|(simp [*,zk,zx] <;> rfl),by(with_reducible repeat(first|apply Kd.N_alloc|apply Kd.N_drewN|apply Kd.N_drew));exact Kd.zxf HO271.out (fun _ hk=>hk.1),bw⟩
      rw [if_neg c14] at H
      exact absurd H (by simp)
     rw [if_neg c12] at H
     exact absurd H (by simp)
    rw [if_neg c10] at H
    exact absurd H (by simp)
   replace c9:=Bool.eq_false_iff.mpr c9
   subst c9
   rw [if_neg (show ¬ (false=true) by decide)] at H
   obtain ⟨y272,hy272⟩:∃ y_:List (S33),y_=(([(⟨a0_0,(⟨a0_1,a0_2,a0_3⟩:S30),a0_4,a0_5,a0_6,l0_7⟩:S33)]:List (S33))):=⟨_,rfl⟩
   replace H:(some y272)=some r:=by first|(rw [hy272];with_reducible exact H)|(have H2_:=(Option.bind_some _ _).symm.trans H;rw [hy272];with_reducible exact H2_)|(have H2_:=(Option.bind_some _ _).symm.trans H;with_reducible exact H2_)|with_reducible exact H|(rw [hy272];exact H)|exact H
   have Ny272:=zq.mk hy272
   clear hy272
   obtain rfl:=Option.some.inj H
   obtain ⟨hcz20_0,hcz20_1,hcz20_2,hcz20_3,hcz20_4,hcz20_5,hcz20_6,hcz20_7,hfz20_0,hfz20_1,hfz20_2,hfz20_3,hfz20_4,hfz20_5,hfz20_6,hfz20_7⟩:=zql BK260.out
   go_wp2_with (first|((with_reducible refine ql (N:=34) rfl ?_);(try(refine zjy (by rfl) ?_;dsimp only));refine Kd.N_lit k33 _ 33 ?hg (N':=34) ?hd (xs:=([(⟨a0_0,(⟨a0_1,a0_2,a0_3⟩:S30),a0_4,a0_5,a0_6,l0_7⟩:S33)]:List (S33))) (inner := [.int .i64 a0_0,.int .i64 a0_1,.int .i64 a0_2,.string a0_3,.string a0_4,.string a0_5,.int .i64 a0_6,.slice A0_7 l0_7.length c0_7]) (ok:=(fun k_=>(P0_7_ k_∨w.heap.size≤k_)∧k_≠gb260)) (okp:=(fun k_=>(P0_7_ k_∨w.heap.size≤k_)∧k_≠gb260)) ?hr ?hp (fun _ hk=>hk) ((show ∀ k_,wc.heap.size≤k_→(fun k_=>(P0_7_ k_∨w.heap.size≤k_)∧k_≠gb260) k_ from fun k_ hk=>⟨(.inr (Nat.le_trans (zv bw) hk)),Kd.freshB (g:=gb260) (o:=.cells #[.int .i64 a0_0,.int .i64 a0_1,.int .i64 a0_2,.string a0_3,.string a0_4,.string a0_5,.int .i64 a0_6,.slice A0_7 l0_7.length c0_7] 33 (0,0)) (up BK260.out) k_ hk⟩) _ (Nat.le_refl _)) (Below.refl _ _) (Nat.le_refl _) (by simp) ?_;(case hd=>rfl);(case hg=>rfl);(case hr=>first|(go_simp;done)|(go_simp;rfl));(case hp=>exact(Reps.c8 (show Kd.FK k33 _ _ (⟨a0_0,(⟨a0_1,a0_2,a0_3⟩:S30),a0_4,a0_5,a0_6,l0_7⟩:S33) [.int .i64 a0_0,.int .i64 a0_1,.int .i64 a0_2,.string a0_3,.string a0_4,.string a0_5,.int .i64 a0_6,.slice A0_7 l0_7.length c0_7] from (k33_mkF _ _ (⟨a0_0,(⟨a0_1,a0_2,a0_3⟩:S30),a0_4,a0_5,a0_6,l0_7⟩:S33) (Kd.zxx (Kd.zko (ok':=(fun k_=>(P0_7_ k_∨w.heap.size≤k_)∧k_≠gb260)) (HO_261007.out) (fun k_ hk=>⟨hk.1,hk.2⟩))).2.1 (Kd.V_F (Kd.zko (ok':=(fun k_=>(P0_7_ k_∨w.heap.size≤k_)∧k_≠gb260)) (HO_261007.out) (fun k_ hk=>⟨hk.1,hk.2⟩))))) (Reps.none _ _)));intro v273 w21 ho22 hb hg_ hnew_;clear hg_ hnew_;(first|rw [← Ny272.out] at ho22|(simp only [Int.reduceToNat] at ho22;rw [← Ny272.out] at ho22));replace HO_261007:=zq.mk (Kd.zj8 (Kd.vu HO_261007.out) (Kd.zxz ho22) hb);have HO274:=zq.mk (Kd.zkq ho22 (zv bw));replace BK260:=zq.mk (zf (g:=gb260) (o:=.cells #[.int .i64 a0_0,.int .i64 a0_1,.int .i64 a0_2,.string a0_3,.string a0_4,.string a0_5,.int .i64 a0_6,.slice A0_7 l0_7.length c0_7] 33 (0,0)) (up BK260.out) hb);replace HB:=zq.mk (zb bw hb);clear hb ho22))
   go_ret
   exact⟨_,by first|rfl|(simp [zk,zx] <;> rfl)|(simp [*,zk,zx] <;> rfl),by(with_reducible repeat(first|apply Kd.N_alloc|apply Kd.N_drewN|apply Kd.N_drew));exact Kd.zxf HO274.out (fun _ hk=>hk.1),bw⟩

/-! ### zqg: function 36 -/
def zqg.f (k:Nat) (a0_0:Int) (a0_1:Int) (a0_2:Int) (a0_3:ByteArray) (a0_4:ByteArray) (a0_5:ByteArray) (a0_6:Int) (l0_7:List (S33)):Option ((List (S33))):=if a0_0=0 then(some ([]:List (S33))) else ((qz.f k a0_0 a0_1 a0_2 a0_3 a0_4 a0_5 a0_6 l0_7 12).bind fun t276=>(some t276))
theorem zqg.mono:∀ a0 a1 a2 a3 a4 a5 a6 a7 k,LeO (zqg.f k a0 a1 a2 a3 a4 a5 a6 a7) (zqg.f (k+1) a0 a1 a2 a3 a4 a5 a6 a7):=by
 intro a0 a1 a2 a3 a4 a5 a6 a7 k
 unfold zqg.f
 repeat' first
   | (with_reducible first|exact qz.mono _ _ _ _ _ _ _ _ _ _|exact LeO.refl _|exact LeO.none _|refine LeO.ite ?_ ?_|refine LeO.bind ?_ (fun _=>?_))
   | exact qz.mono _ _ _ _ _ _ _ _ _ _
   | exact LeO.none _
   | refine LeO.ite ?_ ?_
   | refine LeO.bind ?_ (fun _=>?_)
set_option maxHeartbeats 8000000 in
set_option maxRecDepth 100000 in
theorem zqg.calls (k:Nat) (a0_0:Int) (a0_1:Int) (a0_2:Int) (a0_3:ByteArray) (a0_4:ByteArray) (a0_5:ByteArray) (a0_6:Int) (P0_7_:Nat→Prop) (A0_7:Option Addr) (c0_7:Nat) (l0_7:List (S33)) (r:List (S33)) (w:World) (hs0_7:Kd.V k33 33 w w.heap.size (fun k_=>P0_7_ k_) (.slice A0_7 l0_7.length c0_7) l0_7) (h:zqg.f k a0_0 a0_1 a0_2 a0_3 a0_4 a0_5 a0_6 l0_7=some r) :
  Calls Tryd.prog 36 #[.agg #[.int .i64 a0_0,.int .i64 a0_1,.int .i64 a0_2,.string a0_3,.string a0_4,.string a0_5,.int .i64 a0_6,.slice A0_7 l0_7.length c0_7]] w fun e w' => ∃ v0_:Value,e = .returned (v0_)∧Kd.N k33 33 w' w.heap.size (fun k_=>(P0_7_ k_∨w.heap.size≤k_)) v0_ r∧Below w.heap.size w w':=by
 have hu33:=Tryd.underlying33
 have HO0_7:=zq.mk (show Kd.V k33 33 w w.heap.size (fun k_=>(P0_7_ k_∨w.heap.size≤k_)) (.slice A0_7 l0_7.length c0_7) l0_7 from Kd.zko hs0_7 (fun k_ hk=>.inl hk))
 have HB:=zq.mk (Below.refl w.heap.size w)
 have H:(if a0_0=0 then(some ([]:List (S33))) else ((qz.f k a0_0 a0_1 a0_2 a0_3 a0_4 a0_5 a0_6 l0_7 12).bind fun t276=>(some t276)))=some r:=h
 clear h
 by_cases c2:a0_0=0
 ·rw [if_pos c2] at H
  have c2b0:(a0_0 == 0)=true:=beq_iff_eq.mpr c2
  have c2b1:(a0_0 != 0)=false:=bne_eq_false_iff_eq.mpr c2
  clear c2
  obtain rfl:=Option.some.inj H
  go_enter Tryd.func36,Tryd.ntmps36
  go_wp2_with (first|((with_reducible refine ql (N:=1) rfl ?_);refine qh ?hg (N:=1) ?hd (cs:=#[.int .i64 a0_0,.int .i64 a0_1,.int .i64 a0_2,.string a0_3,.string a0_4,.string a0_5,.int .i64 a0_6,.slice A0_7 l0_7.length c0_7]) (t:=33) ?hr ?_;(case hd=>rfl);(case hg=>rfl);(case hr=>first|(go_simp;done)|(go_simp;rfl));intro gb275 hg w3 hbox hb;replace HO0_7:=zq.mk (Kd.V_below (Kd.V_elderB (Kd.vu HO0_7.out) gb275 (Nat.le_of_eq hg.symm)) hb);have BK275:=zq.mk (hbox);have GW275:=zq.mk ((by rw [hg];exact(zv bw):w.heap.size≤gb275));have GE275:=zq.mk ((by rw [hg];exact(zv bw):w.heap.size≤gb275));replace HB:=zq.mk (zb bw hb);clear hb hbox hg;obtain ⟨hcz4_0,hcz4_1,hcz4_2,hcz4_3,hcz4_4,hcz4_5,hcz4_6,hcz4_7,hfz4_0,hfz4_1,hfz4_2,hfz4_3,hfz4_4,hfz4_5,hfz4_6,hfz4_7⟩:=zql BK275.out))
  go_ret
  exact⟨_,by first|rfl|(simp [zk,zx] <;> rfl)|(simp [*,zk,zx] <;> rfl),by first|exact Kd.R_nil _ _ _ _ _|exact Kd.N_nil _ _ _ _ _|exact Kd.V_nil _ _ _ _ _|exact Kd.Q_nil _ _ _ _ _|exact Kd.S_nil _ _ _ _ _,bw⟩
 rw [if_neg c2] at H
 have c2b0:(a0_0 == 0)=false:=beq_eq_false_iff_ne.mpr c2
 have c2b1:(a0_0 != 0)=true:=bne_iff_ne.mpr c2
 replace H:=Option.bind_eq_some_iff.mp H
 obtain ⟨t276,A50,H⟩:=H
 replace H:(some t276)=some r:=H
 have A5:=zq.mk A50
 clear A50
 obtain rfl:=Option.some.inj H
 go_enter Tryd.func36,Tryd.ntmps36
 go_wp2_with (first|((with_reducible refine ql (N:=1) rfl ?_);refine qh ?hg (N:=1) ?hd (cs:=#[.int .i64 a0_0,.int .i64 a0_1,.int .i64 a0_2,.string a0_3,.string a0_4,.string a0_5,.int .i64 a0_6,.slice A0_7 l0_7.length c0_7]) (t:=33) ?hr ?_;(case hd=>rfl);(case hg=>rfl);(case hr=>first|(go_simp;done)|(go_simp;rfl));intro gb275 hg w6 hbox hb;replace HO0_7:=zq.mk (Kd.V_below (Kd.V_elderB (Kd.vu HO0_7.out) gb275 (Nat.le_of_eq hg.symm)) hb);have BK275:=zq.mk (hbox);have GW275:=zq.mk ((by rw [hg];exact(zv bw):w.heap.size≤gb275));have GE275:=zq.mk ((by rw [hg];exact(zv bw):w.heap.size≤gb275));replace HB:=zq.mk (zb bw hb);clear hb hbox hg;obtain ⟨hcz7_0,hcz7_1,hcz7_2,hcz7_3,hcz7_4,hcz7_5,hcz7_6,hcz7_7,hfz7_0,hfz7_1,hfz7_2,hfz7_3,hfz7_4,hfz7_5,hfz7_6,hfz7_7⟩:=zql BK275.out)|((with_reducible refine zs (f:=54) rfl ?_);refine qo (some 7) rfl rfl Tryd.func54 (by kernel_rfl) rfl #[.agg #[.int .i64 a0_0,.int .i64 a0_1,.int .i64 a0_2,.string a0_3,.string a0_4,.string a0_5,.int .i64 a0_6,.slice A0_7 l0_7.length c0_7],.int .i64 12] rfl gs ?_;(with_reducible refine(qz.calls k a0_0 a0_1 a0_2 a0_3 a0_4 a0_5 a0_6 (fun k_=>((P0_7_ k_∨w.heap.size≤k_)∧k_≠gb275)) _ _ l0_7 12 t276 _ ?side1 A5.out).mono ?_);(case side1=>exact HO0_7.out);rintro e w8 ⟨v277,rfl,ho0,hb⟩;refine⟨_,rfl,?_⟩;replace HO0_7:=zq.mk (Kd.zj8 (Kd.vu HO0_7.out) (Kd.zxz ho0) hb);have HO278:=zq.mk (Kd.zkq (Kd.zxf (ok':=fun k_=>(P0_7_ k_∨w.heap.size≤k_)∧k_≠gb275) ho0 (fun k_ hk_=>⟨Or.elim hk_ (fun hs_=>hs_.1) (fun hn_=>(.inr (Nat.le_trans (zv bw) hn_))),Or.elim hk_ (fun hs_=>hs_.2) (fun hn_=>(Kd.freshB (g:=gb275) (o:=.cells #[.int .i64 a0_0,.int .i64 a0_1,.int .i64 a0_2,.string a0_3,.string a0_4,.string a0_5,.int .i64 a0_6,.slice A0_7 l0_7.length c0_7] 33 (0,0)) (up BK275.out) k_ hn_))⟩)) (zv bw));replace BK275:=zq.mk (zf (g:=gb275) (o:=.cells #[.int .i64 a0_0,.int .i64 a0_1,.int .i64 a0_2,.string a0_3,.string a0_4,.string a0_5,.int .i64 a0_6,.slice A0_7 l0_7.length c0_7] 33 (0,0)) (up BK275.out) hb);replace HB:=zq.mk (zb bw hb);(try clear hb);(try clear hb2);(try clear hk);(try clear hi);(try clear ho0)))
 go_ret
 exact⟨_,by first|rfl|(simp [zk,zx] <;> rfl)|(simp [*,zk,zx] <;> rfl),by(with_reducible repeat(first|apply Kd.N_alloc|apply Kd.N_drewN|apply Kd.N_drew));exact Kd.zxf HO278.out (fun _ hk=>hk.1),bw⟩

end Go.Proofs.YtmfpaeajibeikaaDoor.PEvalHolds
