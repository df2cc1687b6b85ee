-- Written by wip/pp of this repo (over the kit's print, with additions of this session); Lean checks every line.
import Derived.Test.YthhejedfjgikdaaDoorPRowReadsx13
namespace Go.Proofs.YthhejedfjgikdaaDoor.PRowReads
open Go.RowKit Go.Proofs.YthhejedfjgikdaaDoorW.PrintWords Go.Proofs.YthhejedfjgikdaaDoorW.PrintLast Go.Proofs.YthhejedfjgikdaaDoorW.PrintMore
attribute [local go_sem] zjo zjm zjw zjv zja zq9 zjn zjl   -- for this text's walks alone
set_option linter.unusedVariables false
set_option linter.unusedSimpArgs false

/-! ### zo: function 66 -/
mutual
def zo.l0:Nat→List Int→Int→Int→Option (Int × Int × ByteArray × Int × Int)
 | 0,_,_,_=>none
 | k+1,x0,x5,x6=>if x6<9 then(if 0≤x6 then(if x6<(x0.length:Int) then(zo.l0 k x0 (IntKind.u64.wrap ((IntKind.u64.wrap (x5 * 256))+(IntKind.u64.wrap (rd x0 x6)))) (wrap64 (x6+1))) else (none)) else (none)) else (some (2,wrap64 (IntKind.u64.wrap (x5 - 9223372036854775808)),(⟨#[]⟩:ByteArray),9,0))
def zo.l1:Nat→List Int→ByteArray→Int→Option (Int × Int × ByteArray × Int × Int)
 | 0,_,_,_=>none
 | k+1,x0,x7,x8=>if x8 ≥ (x0.length:Int) then(zo.j2 k x0 x7 x8 true) else (if 0≤x8 then(if x8<(x0.length:Int) then(if(rd x0 x8)=0 then(zo.j2 k x0 x7 x8 (decide ((wrap64 (x8+1)) ≥ (x0.length:Int)))) else (zo.j2 k x0 x7 x8 false)) else (none)) else (none))
def zo.j2:Nat→List Int→ByteArray→Int→Bool→Option (Int × Int × ByteArray × Int × Int)
 | 0,_,_,_,_=>none
 | k+1,x0,x7,x8,x62=>if x62=true then(some (0,0,(⟨#[]⟩:ByteArray),0,5)) else (if 0≤x8 then(if x8<(x0.length:Int) then(if(rd x0 x8)=0 then(if 0≤(wrap64 (x8+1)) then(if(wrap64 (x8+1))<(x0.length:Int) then(if(rd x0 (wrap64 (x8+1)))=1 then(if(x7.size:Int) > 40 then(some (0,0,(⟨#[]⟩:ByteArray),0,1)) else ((zu.f k x7).bind fun t352=>(if t352=true then(some (3,0,x7,wrap64 (x8+2),0)) else (some (0,0,(⟨#[]⟩:ByteArray),0,4))))) else (if(rd x0 (wrap64 (x8+1)))=255 then(if x8≤(wrap64 (x8+1)) then(if(wrap64 (x8+1))≤(x0.length:Int) then(if x7.size+(strOfNums ((x0.take ((wrap64 (x8+1)):Int).toNat).drop (x8:Int).toNat)).size≤9223372036854775807 then(zo.l1 k x0 (x7 ++ (strOfNums ((x0.take ((wrap64 (x8+1)):Int).toNat).drop (x8:Int).toNat))) (wrap64 (x8+2))) else (none)) else (none)) else (none)) else (some (0,0,(⟨#[]⟩:ByteArray),0,4)))) else (none)) else (none)) else (if x8≤(wrap64 (x8+1)) then(if(wrap64 (x8+1))≤(x0.length:Int) then(if x7.size+(strOfNums ((x0.take ((wrap64 (x8+1)):Int).toNat).drop (x8:Int).toNat)).size≤9223372036854775807 then(zo.l1 k x0 (x7 ++ (strOfNums ((x0.take ((wrap64 (x8+1)):Int).toNat).drop (x8:Int).toNat))) (wrap64 (x8+1))) else (none)) else (none)) else (none))) else (none)) else (none))
end
def zo.f (k:Nat) (l0:List Int):Option (Int × Int × ByteArray × Int × Int):=if 0<(l0.length:Int) then(if(rd l0 0)=1 then(some (0,0,(⟨#[]⟩:ByteArray),1,0)) else (if(rd l0 0)=2 then(some (1,0,(⟨#[]⟩:ByteArray),1,0)) else (if(rd l0 0)=3 then(some (1,1,(⟨#[]⟩:ByteArray),1,0)) else (if(rd l0 0)=4 then(if(l0.length:Int)<9 then(some (0,0,(⟨#[]⟩:ByteArray),0,5)) else (zo.l0 k l0 0 1)) else (if(rd l0 0)=5 then(zo.l1 k l0 (⟨#[]⟩:ByteArray) 1) else (some (0,0,(⟨#[]⟩:ByteArray),0,3))))))) else (none)
theorem zo.mono_l:∀ k,(∀ y0 y1 y2,LeO (zo.l0 k y0 y1 y2) (zo.l0 (k+1) y0 y1 y2))∧(∀ y0 y1 y2,LeO (zo.l1 k y0 y1 y2) (zo.l1 (k+1) y0 y1 y2))∧(∀ y0 y1 y2 y3,LeO (zo.j2 k y0 y1 y2 y3) (zo.j2 (k+1) y0 y1 y2 y3))
 | 0=>⟨fun _ _ _ r h=>by simp [zo.l0] at h,fun _ _ _ r h=>by simp [zo.l1] at h,fun _ _ _ _ r h=>by simp [zo.j2] at h⟩
 | k+1=>by
  obtain ⟨ih0,ih1,ih2⟩:=zo.mono_l k
  refine⟨?_,?_,?_⟩
  ·intro y0 y1 y2
   unfold zo.l0
   repeat' first
   | (with_reducible first|exact ih0 _ _ _|exact ih1 _ _ _|exact ih2 _ _ _ _|exact zu.mono _ _|exact LeO.refl _|exact LeO.none _|refine LeO.ite ?_ ?_|refine LeO.bind ?_ (fun _=>?_))
   | exact ih0 _ _ _
   | exact ih1 _ _ _
   | exact ih2 _ _ _ _
   | exact zu.mono _ _
   | exact LeO.none _
   | refine LeO.ite ?_ ?_
   | refine LeO.bind ?_ (fun _=>?_)
  ·intro y0 y1 y2
   unfold zo.l1
   repeat' first
   | (with_reducible first|exact ih0 _ _ _|exact ih1 _ _ _|exact ih2 _ _ _ _|exact zu.mono _ _|exact LeO.refl _|exact LeO.none _|refine LeO.ite ?_ ?_|refine LeO.bind ?_ (fun _=>?_))
   | exact ih0 _ _ _
   | exact ih1 _ _ _
   | exact ih2 _ _ _ _
   | exact zu.mono _ _
   | exact LeO.none _
   | refine LeO.ite ?_ ?_
   | refine LeO.bind ?_ (fun _=>?_)
  intro y0 y1 y2 y3
  unfold zo.j2
  repeat' first
  | (with_reducible first|exact ih0 _ _ _|exact ih1 _ _ _|exact ih2 _ _ _ _|exact zu.mono _ _|exact LeO.refl _|exact LeO.none _|refine LeO.ite ?_ ?_|refine LeO.bind ?_ (fun _=>?_))
  | exact ih0 _ _ _
  | exact ih1 _ _ _
  | exact ih2 _ _ _ _
  | exact zu.mono _ _
  | exact LeO.none _
  | refine LeO.ite ?_ ?_
  | refine LeO.bind ?_ (fun _=>?_)
theorem zo.mono:∀ a0 k,LeO (zo.f k a0) (zo.f (k+1) a0):=by
 intro a0 k
 obtain ⟨ih0,ih1,ih2⟩:=zo.mono_l k
 unfold zo.f
 repeat' first
   | (with_reducible first|exact ih0 _ _ _|exact ih1 _ _ _|exact ih2 _ _ _ _|exact zu.mono _ _|exact LeO.refl _|exact LeO.none _|refine LeO.ite ?_ ?_|refine LeO.bind ?_ (fun _=>?_))
   | exact ih0 _ _ _
   | exact ih1 _ _ _
   | exact ih2 _ _ _ _
   | exact zu.mono _ _
   | exact LeO.none _
   | refine LeO.ite ?_ ?_
   | refine LeO.bind ?_ (fun _=>?_)
set_option maxHeartbeats 8000000 in
set_option maxRecDepth 100000 in
theorem zo.calls (k:Nat) (A0:Option Addr) (c0:Nat) (l0:List Int) (r1:Int) (r2:Int) (r3:ByteArray) (r4:Int) (r5:Int) (w:World) (hr0:Kd.C (Kd.int .u8) w A0 l0.length l0) (hc0:l0.length≤c0) (h:zo.f k l0=some (r1,r2,r3,r4,r5)) :
  Calls Tryd.prog 66 #[.slice A0 l0.length c0] w fun e w'=>e = .returned (.tuple #[.agg #[.int .i64 r1,.int .i64 r2,.string r3],.int .i64 r4,.int .i64 r5])∧Below w.heap.size w w':=by
 have hu38:=Tryd.underlying38
 have HR0:=zq.mk hr0
 have HC0:=zq.mk hc0
 clear hr0 hc0
 have HB:=zq.mk (Below.refl w.heap.size w)
 have H:(if 0<(l0.length:Int) then(if(rd l0 0)=1 then(some (0,0,(⟨#[]⟩:ByteArray),1,0)) else (if(rd l0 0)=2 then(some (1,0,(⟨#[]⟩:ByteArray),1,0)) else (if(rd l0 0)=3 then(some (1,1,(⟨#[]⟩:ByteArray),1,0)) else (if(rd l0 0)=4 then(if(l0.length:Int)<9 then(some (0,0,(⟨#[]⟩:ByteArray),0,5)) else (zo.l0 k l0 0 1)) else (if(rd l0 0)=5 then(zo.l1 k l0 (⟨#[]⟩:ByteArray) 1) else (some (0,0,(⟨#[]⟩:ByteArray),0,3))))))) else (none))=some (r1,r2,r3,r4,r5):=h
 clear h
 by_cases c2:0<(l0.length:Int)
 ·rw [if_pos c2] at H
  have c2b0:=decide_eq_true c2
  have c2b1:decide (0<l0.length)=true:=decide_eq_true (by omega)
  clear c2
  by_cases c3:(rd l0 0)=1
  ·rw [if_pos c3] at H
   have c3b0:((rd l0 0) == 1)=true:=beq_iff_eq.mpr c3
   have c3b1:((rd l0 0) != 1)=false:=bne_eq_false_iff_eq.mpr c3
   clear c3
   simp only [Option.some.injEq,Prod.mk.injEq] at H
   obtain ⟨rfl,rfl,rfl,rfl,rfl⟩:=H
   go_enter Tryd.func66,Tryd.ntmps66
   go_wp2_with (first|((with_reducible refine qr (N:=2) rfl ?_);(try(refine ql (by rfl) ?_;dsimp only));refine qm ?hg (N:=2) ?hd (cs:=#[.int .i64 0,.int .i64 0,.string (⟨#[]⟩:ByteArray)]) (t:=38) ?hr ?_;(case hd=>rfl);(case hg=>rfl);(case hr=>first|(go_simp;done)|(go_simp;rfl));intro gb343 hg w4 hbox hb;have BK343:=zq.mk (hbox);have GW343:=zq.mk ((by rw [hg];exact(zw bw):w.heap.size≤gb343));have GE343:=zq.mk ((by rw [hg];exact(zw bw):w.heap.size≤gb343));replace HB:=zq.mk (zn bw hb);clear hb hbox hg;have p344:0≤(0:Int):=(by omega);have q344:0<(l0.length:Int):=dt;obtain ⟨ad344,e344,hx344_0⟩:=Kd.zjb HR0.out 0 p344 q344;cases e344;have qi344:(0<l0.length)=True:=eq_true (by omega);(try rw [show((0:Int)).toNat=0 from rfl] at hx344_0);(try rw [Addr.add_zero'] at hx344_0);replace hx344_0:=(HB.out.cell (World.block_lt_of_cell? w _ hx344_0)).trans hx344_0;replace p344:=eq_true p344;replace q344:=eq_true q344;obtain ⟨hcz5_0,hcz5_1,hcz5_2,hfz5_0,hfz5_1,hfz5_2⟩:=qd BK343.out))
   refine bodyPost_ret (zj2 rfl _ _ gb343 38 #[.int .i64 0,.int .i64 0,.string (⟨#[]⟩:ByteArray)] (0,0) _ rfl (by(with_reducible repeat(first|refine zz ?_ _|refine zk ?_|refine zj ?_ _));refine qw (cs:=#[.int .i64 0,.int .i64 0,.string (⟨#[]⟩:ByteArray)]) ?_ 2 _ rfl;(with_reducible repeat(first|refine zz ?_ _|refine zk ?_|refine zj ?_ _));refine qw (cs:=#[.int .i64 0,.int .i64 0,.string (⟨#[]⟩:ByteArray)]) ?_ 1 _ rfl;(with_reducible repeat(first|refine zz ?_ _|refine zk ?_|refine zj ?_ _));refine qw (cs:=#[.int .i64 0,.int .i64 0,.string (⟨#[]⟩:ByteArray)]) ?_ 0 _ rfl;(with_reducible repeat(first|refine zz ?_ _|refine zk ?_|refine zj ?_ _));exact BK343.out) Tryd.underlying38 rfl (by kernel_rfl)) rfl ?_
   exact⟨by first|rfl|(simp [zg,zy] <;> rfl)|(simp [*,zg,zy] <;> rfl),bw⟩
  rw [if_neg c3] at H
  have c3b0:((rd l0 0) == 1)=false:=beq_eq_false_iff_ne.mpr c3
  have c3b1:((rd l0 0) != 1)=true:=bne_iff_ne.mpr c3
  by_cases c6:(rd l0 0)=2
  ·rw [if_pos c6] at H
   have c6b0:((rd l0 0) == 2)=true:=beq_iff_eq.mpr c6
   have c6b1:((rd l0 0) != 2)=false:=bne_eq_false_iff_eq.mpr c6
   clear c6
   simp only [Option.some.injEq,Prod.mk.injEq] at H
   obtain ⟨rfl,rfl,rfl,rfl,rfl⟩:=H
   go_enter Tryd.func66,Tryd.ntmps66
   go_wp2_with (first|((with_reducible refine qr (N:=2) rfl ?_);(try(refine ql (by rfl) ?_;dsimp only));refine qm ?hg (N:=2) ?hd (cs:=#[.int .i64 0,.int .i64 0,.string (⟨#[]⟩:ByteArray)]) (t:=38) ?hr ?_;(case hd=>rfl);(case hg=>rfl);(case hr=>first|(go_simp;done)|(go_simp;rfl));intro gb343 hg w7 hbox hb;have BK343:=zq.mk (hbox);have GW343:=zq.mk ((by rw [hg];exact(zw bw):w.heap.size≤gb343));have GE343:=zq.mk ((by rw [hg];exact(zw bw):w.heap.size≤gb343));replace HB:=zq.mk (zn bw hb);clear hb hbox hg;have p344:0≤(0:Int):=(by omega);have q344:0<(l0.length:Int):=dt;obtain ⟨ad344,e344,hx344_0⟩:=Kd.zjb HR0.out 0 p344 q344;cases e344;have qi344:(0<l0.length)=True:=eq_true (by omega);(try rw [show((0:Int)).toNat=0 from rfl] at hx344_0);(try rw [Addr.add_zero'] at hx344_0);replace hx344_0:=(HB.out.cell (World.block_lt_of_cell? w _ hx344_0)).trans hx344_0;replace p344:=eq_true p344;replace q344:=eq_true q344;obtain ⟨hcz8_0,hcz8_1,hcz8_2,hfz8_0,hfz8_1,hfz8_2⟩:=qd BK343.out))
   refine bodyPost_ret (zj2 rfl _ _ gb343 38 #[.int .i64 1,.int .i64 0,.string (⟨#[]⟩:ByteArray)] (0,0) _ rfl (by(with_reducible repeat(first|refine zz ?_ _|refine zk ?_|refine zj ?_ _));refine qw (cs:=#[.int .i64 1,.int .i64 0,.string (⟨#[]⟩:ByteArray)]) ?_ 2 _ rfl;(with_reducible repeat(first|refine zz ?_ _|refine zk ?_|refine zj ?_ _));refine qw (cs:=#[.int .i64 1,.int .i64 0,.string (⟨#[]⟩:ByteArray)]) ?_ 1 _ rfl;(with_reducible repeat(first|refine zz ?_ _|refine zk ?_|refine zj ?_ _));refine qw (cs:=#[.int .i64 0,.int .i64 0,.string (⟨#[]⟩:ByteArray)]) ?_ 0 _ rfl;(with_reducible repeat(first|refine zz ?_ _|refine zk ?_|refine zj ?_ _));exact BK343.out) Tryd.underlying38 rfl (by kernel_rfl)) rfl ?_
   exact⟨by first|rfl|(simp [zg,zy] <;> rfl)|(simp [*,zg,zy] <;> rfl),bw⟩
  rw [if_neg c6] at H
  have c6b0:((rd l0 0) == 2)=false:=beq_eq_false_iff_ne.mpr c6
  have c6b1:((rd l0 0) != 2)=true:=bne_iff_ne.mpr c6
  by_cases c9:(rd l0 0)=3
  ·rw [if_pos c9] at H
   have c9b0:((rd l0 0) == 3)=true:=beq_iff_eq.mpr c9
   have c9b1:((rd l0 0) != 3)=false:=bne_eq_false_iff_eq.mpr c9
   clear c9
   simp only [Option.some.injEq,Prod.mk.injEq] at H
   obtain ⟨rfl,rfl,rfl,rfl,rfl⟩:=H
   go_enter Tryd.func66,Tryd.ntmps66
   go_wp2_with (first|((with_reducible refine qr (N:=2) rfl ?_);(try(refine ql (by rfl) ?_;dsimp only));refine qm ?hg (N:=2) ?hd (cs:=#[.int .i64 0,.int .i64 0,.string (⟨#[]⟩:ByteArray)]) (t:=38) ?hr ?_;(case hd=>rfl);(case hg=>rfl);(case hr=>first|(go_simp;done)|(go_simp;rfl));intro gb343 hg w10 hbox hb;have BK343:=zq.mk (hbox);have GW343:=zq.mk ((by rw [hg];exact(zw bw):w.heap.size≤gb343));have GE343:=zq.mk ((by rw [hg];exact(zw bw):w.heap.size≤gb343));replace HB:=zq.mk (zn bw hb);clear hb hbox hg;have p344:0≤(0:Int):=(by omega);have q344:0<(l0.length:Int):=dt;obtain ⟨ad344,e344,hx344_0⟩:=Kd.zjb HR0.out 0 p344 q344;cases e344;have qi344:(0<l0.length)=True:=eq_true (by omega);(try rw [show((0:Int)).toNat=0 from rfl] at hx344_0);(try rw [Addr.add_zero'] at hx344_0);replace hx344_0:=(HB.out.cell (World.block_lt_of_cell? w _ hx344_0)).trans hx344_0;replace p344:=eq_true p344;replace q344:=eq_true q344;obtain ⟨hcz11_0,hcz11_1,hcz11_2,hfz11_0,hfz11_1,hfz11_2⟩:=qd BK343.out))
   refine bodyPost_ret (zj2 rfl _ _ gb343 38 #[.int .i64 1,.int .i64 1,.string (⟨#[]⟩:ByteArray)] (0,0) _ rfl (by(with_reducible repeat(first|refine zz ?_ _|refine zk ?_|refine zj ?_ _));refine qw (cs:=#[.int .i64 1,.int .i64 1,.string (⟨#[]⟩:ByteArray)]) ?_ 2 _ rfl;(with_reducible repeat(first|refine zz ?_ _|refine zk ?_|refine zj ?_ _));refine qw (cs:=#[.int .i64 1,.int .i64 0,.string (⟨#[]⟩:ByteArray)]) ?_ 1 _ rfl;(with_reducible repeat(first|refine zz ?_ _|refine zk ?_|refine zj ?_ _));refine qw (cs:=#[.int .i64 0,.int .i64 0,.string (⟨#[]⟩:ByteArray)]) ?_ 0 _ rfl;(with_reducible repeat(first|refine zz ?_ _|refine zk ?_|refine zj ?_ _));exact BK343.out) Tryd.underlying38 rfl (by kernel_rfl)) rfl ?_
   exact⟨by first|rfl|(simp [zg,zy] <;> rfl)|(simp [*,zg,zy] <;> rfl),bw⟩
  rw [if_neg c9] at H
  have c9b0:((rd l0 0) == 3)=false:=beq_eq_false_iff_ne.mpr c9
  have c9b1:((rd l0 0) != 3)=true:=bne_iff_ne.mpr c9
  by_cases c12:(rd l0 0)=4
  ·rw [if_pos c12] at H
   have c12b0:((rd l0 0) == 4)=true:=beq_iff_eq.mpr c12
   have c12b1:((rd l0 0) != 4)=false:=bne_eq_false_iff_eq.mpr c12
   clear c12
   by_cases c13:(l0.length:Int)<9
   ·rw [if_pos c13] at H
    have c13b0:=decide_eq_true c13
    have c13b1:decide (l0.length<9)=true:=decide_eq_true (by omega)
    clear c13
    simp only [Option.some.injEq,Prod.mk.injEq] at H
    obtain ⟨rfl,rfl,rfl,rfl,rfl⟩:=H
    go_enter Tryd.func66,Tryd.ntmps66
    go_wp2_with (first|((with_reducible refine qr (N:=2) rfl ?_);(try(refine ql (by rfl) ?_;dsimp only));refine qm ?hg (N:=2) ?hd (cs:=#[.int .i64 0,.int .i64 0,.string (⟨#[]⟩:ByteArray)]) (t:=38) ?hr ?_;(case hd=>rfl);(case hg=>rfl);(case hr=>first|(go_simp;done)|(go_simp;rfl));intro gb343 hg w14 hbox hb;have BK343:=zq.mk (hbox);have GW343:=zq.mk ((by rw [hg];exact(zw bw):w.heap.size≤gb343));have GE343:=zq.mk ((by rw [hg];exact(zw bw):w.heap.size≤gb343));replace HB:=zq.mk (zn bw hb);clear hb hbox hg;have p344:0≤(0:Int):=(by omega);have q344:0<(l0.length:Int):=dt;obtain ⟨ad344,e344,hx344_0⟩:=Kd.zjb HR0.out 0 p344 q344;cases e344;have qi344:(0<l0.length)=True:=eq_true (by omega);(try rw [show((0:Int)).toNat=0 from rfl] at hx344_0);(try rw [Addr.add_zero'] at hx344_0);replace hx344_0:=(HB.out.cell (World.block_lt_of_cell? w _ hx344_0)).trans hx344_0;replace p344:=eq_true p344;replace q344:=eq_true q344;obtain ⟨hcz15_0,hcz15_1,hcz15_2,hfz15_0,hfz15_1,hfz15_2⟩:=qd BK343.out))
    refine bodyPost_ret (zj2 rfl _ _ gb343 38 #[.int .i64 0,.int .i64 0,.string (⟨#[]⟩:ByteArray)] (0,0) _ rfl (by(with_reducible repeat(first|refine zz ?_ _|refine zk ?_|refine zj ?_ _));refine qw (cs:=#[.int .i64 0,.int .i64 0,.string (⟨#[]⟩:ByteArray)]) ?_ 2 _ rfl;(with_reducible repeat(first|refine zz ?_ _|refine zk ?_|refine zj ?_ _));refine qw (cs:=#[.int .i64 0,.int .i64 0,.string (⟨#[]⟩:ByteArray)]) ?_ 1 _ rfl;(with_reducible repeat(first|refine zz ?_ _|refine zk ?_|refine zj ?_ _));refine qw (cs:=#[.int .i64 0,.int .i64 0,.string (⟨#[]⟩:ByteArray)]) ?_ 0 _ rfl;(with_reducible repeat(first|refine zz ?_ _|refine zk ?_|refine zj ?_ _));exact BK343.out) Tryd.underlying38 rfl (by kernel_rfl)) rfl ?_
    exact⟨by first|rfl|(simp [zg,zy] <;> rfl)|(simp [*,zg,zy] <;> rfl),bw⟩
   rw [if_neg c13] at H
   have c13b0:=decide_eq_false c13
   have c13b1:decide (l0.length<9)=false:=decide_eq_false (by omega)
   clear c13
   have H':=zq.mk H
   clear H
   go_enter Tryd.func66,Tryd.ntmps66
   go_wp2_with (first|((with_reducible refine qr (N:=2) rfl ?_);(try(refine ql (by rfl) ?_;dsimp only));refine qm ?hg (N:=2) ?hd (cs:=#[.int .i64 0,.int .i64 0,.string (⟨#[]⟩:ByteArray)]) (t:=38) ?hr ?_;(case hd=>rfl);(case hg=>rfl);(case hr=>first|(go_simp;done)|(go_simp;rfl));intro gb343 hg w16 hbox hb;have BK343:=zq.mk (hbox);have GW343:=zq.mk ((by rw [hg];exact(zw bw):w.heap.size≤gb343));have GE343:=zq.mk ((by rw [hg];exact(zw bw):w.heap.size≤gb343));replace HB:=zq.mk (zn bw hb);clear hb hbox hg;have p344:0≤(0:Int):=(by omega);have q344:0<(l0.length:Int):=dt;obtain ⟨ad344,e344,hx344_0⟩:=Kd.zjb HR0.out 0 p344 q344;cases e344;have qi344:(0<l0.length)=True:=eq_true (by omega);(try rw [show((0:Int)).toNat=0 from rfl] at hx344_0);(try rw [Addr.add_zero'] at hx344_0);replace hx344_0:=(HB.out.cell (World.block_lt_of_cell? w _ hx344_0)).trans hx344_0;replace p344:=eq_true p344;replace q344:=eq_true q344))
   go_loopg [5,6] k (fun kq v5 v6 w' => ∃ (x5_1:Int) (x6_1:Int),v5 = .int .u64 x5_1∧v6 = .int .i64 x6_1∧zq (zo.l0 kq l0 x5_1 x6_1=some (r1,r2,r3,r4,r5))∧zq (kq≤k)∧zq (w'.heap[gb343]? = some (.cells #[.int .i64 0,.int .i64 0,.string (⟨#[]⟩:ByteArray)] 38 (0,0)))∧zq (Below w.heap.size w w'))
   case atStart=>exact⟨(0),(1),vr,vr,H',⟨Nat.le_refl _⟩,⟨by(with_reducible repeat(first|refine zz ?_ _|refine zk ?_|refine zj ?_ _));exact BK343.out⟩,⟨bw⟩⟩
   case round=>
    clear H'
    (try clear c2);(try clear c2b0);(try clear c2b1);(try clear c3);(try clear c3b0);(try clear c3b1);(try clear c6);(try clear c6b0);(try clear c6b1);(try clear c9);(try clear c9b0);(try clear c9b1);(try clear c12);(try clear c12b0);(try clear c12b1);(try clear c13);(try clear c13b0);(try clear c13b1);(try clear hx344_0);(try clear p344);(try clear q344)
    obtain ⟨x5_1,x6_1,rfl,rfl,HA,HK1,BK343,HB⟩:=hrel
    cases gk with
    | zero=>exact absurd HA.out (by simp [zo.l0])
    | succ k1=>
     have H:=HA.out
     clear HA
     simp only [zo.l0] at H
     by_cases c17:x6_1<9
     ·rw [if_pos c17] at H
      have c17b0:=decide_eq_true c17
      clear c17
      by_cases c18:0≤x6_1
      ·rw [if_pos c18] at H
       have c18b0:=decide_eq_true c18
       clear c18
       by_cases c19:x6_1<(l0.length:Int)
       ·rw [if_pos c19] at H
        have c19b0:=decide_eq_true c19
        clear c19
        have H':=zq.mk H
        clear H
        have p345:0≤(x6_1:Int):=dt
        have q345:x6_1<(l0.length:Int):=dt
        obtain ⟨ad345,e345,hx345_0⟩:=Kd.zjb HR0.out x6_1 p345 q345
        obtain rfl:ad344=ad345:=(by injection e345)
        replace hx345_0:=(HB.out.cell (World.block_lt_of_cell? w _ hx345_0)).trans hx345_0
        replace p345:=eq_true p345
        replace q345:=eq_true q345
        go_wp2
        go_roundg k1
        case measure=>have:=HK1.out;omega
        case rel=>exact⟨(IntKind.u64.wrap ((IntKind.u64.wrap (x5_1 * 256))+(IntKind.u64.wrap (rd l0 x6_1)))),(wrap64 (x6_1+1)),vr,vr,H',⟨by have:=HK1.out;omega⟩,⟨by(with_reducible repeat(first|refine zz ?_ _|refine zk ?_|refine zj ?_ _));exact BK343.out⟩,⟨bw⟩⟩
       rw [if_neg c19] at H
       exact absurd H (by simp)
      rw [if_neg c18] at H
      exact absurd H (by simp)
     rw [if_neg c17] at H
     have c17b0:=decide_eq_false c17
     clear c17
     simp only [Option.some.injEq,Prod.mk.injEq] at H
     obtain ⟨rfl,rfl,rfl,rfl,rfl⟩:=H
     obtain ⟨hcz20_0,hcz20_1,hcz20_2,hfz20_0,hfz20_1,hfz20_2⟩:=qd BK343.out
     go_wp2
     refine bodyPost_ret (zj2 rfl _ _ gb343 38 #[.int .i64 2,.int .i64 (wrap64 (IntKind.u64.wrap (x5_1 - 9223372036854775808))),.string (⟨#[]⟩:ByteArray)] (0,0) _ rfl (by(with_reducible repeat(first|refine zz ?_ _|refine zk ?_|refine zj ?_ _));refine qw (cs:=#[.int .i64 2,.int .i64 (wrap64 (IntKind.u64.wrap (x5_1 - 9223372036854775808))),.string (⟨#[]⟩:ByteArray)]) ?_ 2 _ rfl;(with_reducible repeat(first|refine zz ?_ _|refine zk ?_|refine zj ?_ _));refine qw (cs:=#[.int .i64 2,.int .i64 0,.string (⟨#[]⟩:ByteArray)]) ?_ 1 _ rfl;(with_reducible repeat(first|refine zz ?_ _|refine zk ?_|refine zj ?_ _));refine qw (cs:=#[.int .i64 0,.int .i64 0,.string (⟨#[]⟩:ByteArray)]) ?_ 0 _ rfl;(with_reducible repeat(first|refine zz ?_ _|refine zk ?_|refine zj ?_ _));exact BK343.out) Tryd.underlying38 rfl (by kernel_rfl)) rfl ?_
     exact⟨by first|rfl|(simp [zg,zy] <;> rfl)|(simp [*,zg,zy] <;> rfl),bw⟩
  rw [if_neg c12] at H
  have c12b0:((rd l0 0) == 4)=false:=beq_eq_false_iff_ne.mpr c12
  have c12b1:((rd l0 0) != 4)=true:=bne_iff_ne.mpr c12
  by_cases c21:(rd l0 0)=5
  ·rw [if_pos c21] at H
   have c21b0:((rd l0 0) == 5)=true:=beq_iff_eq.mpr c21
   have c21b1:((rd l0 0) != 5)=false:=bne_eq_false_iff_eq.mpr c21
   clear c21
   have H':=zq.mk H
   clear H
   go_enter Tryd.func66,Tryd.ntmps66
   go_wp2_with (first|((with_reducible refine qr (N:=2) rfl ?_);(try(refine ql (by rfl) ?_;dsimp only));refine qm ?hg (N:=2) ?hd (cs:=#[.int .i64 0,.int .i64 0,.string (⟨#[]⟩:ByteArray)]) (t:=38) ?hr ?_;(case hd=>rfl);(case hg=>rfl);(case hr=>first|(go_simp;done)|(go_simp;rfl));intro gb343 hg w22 hbox hb;have BK343:=zq.mk (hbox);have GW343:=zq.mk ((by rw [hg];exact(zw bw):w.heap.size≤gb343));have GE343:=zq.mk ((by rw [hg];exact(zw bw):w.heap.size≤gb343));replace HB:=zq.mk (zn bw hb);clear hb hbox hg;have p344:0≤(0:Int):=(by omega);have q344:0<(l0.length:Int):=dt;obtain ⟨ad344,e344,hx344_0⟩:=Kd.zjb HR0.out 0 p344 q344;cases e344;have qi344:(0<l0.length)=True:=eq_true (by omega);(try rw [show((0:Int)).toNat=0 from rfl] at hx344_0);(try rw [Addr.add_zero'] at hx344_0);replace hx344_0:=(HB.out.cell (World.block_lt_of_cell? w _ hx344_0)).trans hx344_0;replace p344:=eq_true p344;replace q344:=eq_true q344))
   go_loopg [7,8] k (fun kq v7 v8 w' => ∃ (x7_1:ByteArray) (x8_1:Int) (x344000_1:Int) (x344001_1:Int) (x344002_1:ByteArray),v7 = .string x7_1∧v8 = .int .i64 x8_1∧zq (zo.l1 kq l0 x7_1 x8_1=some (r1,r2,r3,r4,r5))∧zq (kq≤k)∧zq (w'.heap[gb343]? = some (.cells #[.int .i64 x344000_1,.int .i64 x344001_1,.string x344002_1] 38 (0,0)))∧zq (Below w.heap.size w w'))
   case atStart=>exact⟨((⟨#[]⟩:ByteArray)),(1),(0),(0),((⟨#[]⟩:ByteArray)),vr,vr,H',⟨Nat.le_refl _⟩,⟨by(with_reducible repeat(first|refine zz ?_ _|refine zk ?_|refine zj ?_ _));exact BK343.out⟩,⟨bw⟩⟩
   case round=>
    clear H'
    (try clear c2);(try clear c2b0);(try clear c2b1);(try clear c3);(try clear c3b0);(try clear c3b1);(try clear c6);(try clear c6b0);(try clear c6b1);(try clear c9);(try clear c9b0);(try clear c9b1);(try clear c12);(try clear c12b0);(try clear c12b1);(try clear c21);(try clear c21b0);(try clear c21b1);(try clear hx344_0);(try clear p344);(try clear q344)
    obtain ⟨x7_1,x8_1,x344000_1,x344001_1,x344002_1,rfl,rfl,HA,HK1,BK343,HB⟩:=hrel
    cases gk with
    | zero=>exact absurd HA.out (by simp [zo.l1])
    | succ k1=>
     have H:=HA.out
     clear HA
     simp only [zo.l1] at H
     have HC23:=zq.mk H
     clear H
     go_upto_region 20 with (fail)
     go_cut [62] (fun v62 wc => ∃ (kq:Nat) (x62_22:Bool),v62 = .bool x62_22∧zq (zo.j2 kq l0 x7_1 x8_1 x62_22=some (r1,r2,r3,r4,r5))∧zq (kq≤k1)∧zq (wc.heap[gb343]? = some (.cells #[.int .i64 x344000_1,.int .i64 x344001_1,.string x344002_1] 38 (0,0)))∧zq (Below w.heap.size w wc))
     case first=>
      have H:=HC23.out
      clear HC23
      by_cases c24:x8_1 ≥ (l0.length:Int)
      ·rw [if_pos c24] at H
       have c24b0:=decide_eq_true c24
       clear c24
       (first|rw [c24b0]|(simp only [zqp,zqq];rw [c24b0])|skip)
       have H':=zq.mk H
       clear H
       go_wp2
       go_meet
       case rel=>exact⟨_,(true),vr,H',⟨by have:=HK1.out;first|omega|exact Nat.le_refl _⟩,⟨by(with_reducible repeat(first|refine zz ?_ _|refine zk ?_|refine zj ?_ _));exact BK343.out⟩,⟨bw⟩⟩
      rw [if_neg c24] at H
      have c24b0:=decide_eq_false c24
      clear c24
      (first|rw [c24b0]|(simp only [zqp,zqq];rw [c24b0])|skip)
      by_cases c25:0≤x8_1
      ·rw [if_pos c25] at H
       have c25b0:=decide_eq_true c25
       clear c25
       by_cases c26:x8_1<(l0.length:Int)
       ·rw [if_pos c26] at H
        have c26b0:=decide_eq_true c26
        clear c26
        by_cases c27:(rd l0 x8_1)=0
        ·rw [if_pos c27] at H
         have c27b0:((rd l0 x8_1) == 0)=true:=beq_iff_eq.mpr c27
         have c27b1:((rd l0 x8_1) != 0)=false:=bne_eq_false_iff_eq.mpr c27
         clear c27
         have H':=zq.mk H
         clear H
         have p346:0≤(x8_1:Int):=dt
         have q346:x8_1<(l0.length:Int):=dt
         obtain ⟨ad346,e346,hx346_0⟩:=Kd.zjb HR0.out x8_1 p346 q346
         obtain rfl:ad344=ad346:=(by injection e346)
         replace hx346_0:=(HB.out.cell (World.block_lt_of_cell? w _ hx346_0)).trans hx346_0
         replace p346:=eq_true p346
         replace q346:=eq_true q346
         go_wp2
         go_meet
         case rel=>exact⟨_,(decide ((wrap64 (x8_1+1)) ≥ (l0.length:Int))),vr,H',⟨by have:=HK1.out;first|omega|exact Nat.le_refl _⟩,⟨by(with_reducible repeat(first|refine zz ?_ _|refine zk ?_|refine zj ?_ _));exact BK343.out⟩,⟨bw⟩⟩
        rw [if_neg c27] at H
        have c27b0:((rd l0 x8_1) == 0)=false:=beq_eq_false_iff_ne.mpr c27
        have c27b1:((rd l0 x8_1) != 0)=true:=bne_iff_ne.mpr c27
        have H':=zq.mk H
        clear H
        have p346:0≤(x8_1:Int):=dt
        have q346:x8_1<(l0.length:Int):=dt
        obtain ⟨ad346,e346,hx346_0⟩:=Kd.zjb HR0.out x8_1 p346 q346
        obtain rfl:ad344=ad346:=(by injection e346)
        replace hx346_0:=(HB.out.cell (World.block_lt_of_cell? w _ hx346_0)).trans hx346_0
        replace p346:=eq_true p346
        replace q346:=eq_true q346
        go_wp2
        go_meet
        case rel=>exact⟨_,(false),vr,H',⟨by have:=HK1.out;first|omega|exact Nat.le_refl _⟩,⟨by(with_reducible repeat(first|refine zz ?_ _|refine zk ?_|refine zj ?_ _));exact BK343.out⟩,⟨bw⟩⟩
       rw [if_neg c26] at H
       exact absurd H (by simp)
      rw [if_neg c25] at H
      exact absurd H (by simp)
     case rest=>
      clear HC23
      (try clear c2);(try clear c2b0);(try clear c2b1);(try clear c3);(try clear c3b0);(try clear c3b1);(try clear c6);(try clear c6b0);(try clear c6b1);(try clear c9);(try clear c9b0);(try clear c9b1);(try clear c12);(try clear c12b0);(try clear c12b1);(try clear c21);(try clear c21b0);(try clear c21b1);(try clear hx344_0);(try clear p344);(try clear q344)
      obtain ⟨kq,x62_22,rfl,HA,HJ22,BK343,HB⟩:=hcut
      cases kq with
      | zero=>exact absurd HA.out (by simp [zo.j2])
      | succ kj22=>
       have H:=HA.out
       clear HA
       simp only [zo.j2] at H
       by_cases c28:x62_22=true
       ·subst c28
        rw [if_pos rfl] at H
        simp only [Option.some.injEq,Prod.mk.injEq] at H
        obtain ⟨rfl,rfl,rfl,rfl,rfl⟩:=H
        obtain ⟨hcz29_0,hcz29_1,hcz29_2,hfz29_0,hfz29_1,hfz29_2⟩:=qd BK343.out
        go_wp2
        refine bodyPost_ret (zj2 rfl _ _ gb343 38 #[.int .i64 0,.int .i64 0,.string (⟨#[]⟩:ByteArray)] (0,0) _ rfl (by(with_reducible repeat(first|refine zz ?_ _|refine zk ?_|refine zj ?_ _));refine qw (cs:=#[.int .i64 0,.int .i64 0,.string x344002_1]) ?_ 2 _ rfl;(with_reducible repeat(first|refine zz ?_ _|refine zk ?_|refine zj ?_ _));refine qw (cs:=#[.int .i64 0,.int .i64 x344001_1,.string x344002_1]) ?_ 1 _ rfl;(with_reducible repeat(first|refine zz ?_ _|refine zk ?_|refine zj ?_ _));refine qw (cs:=#[.int .i64 x344000_1,.int .i64 x344001_1,.string x344002_1]) ?_ 0 _ rfl;(with_reducible repeat(first|refine zz ?_ _|refine zk ?_|refine zj ?_ _));exact BK343.out) Tryd.underlying38 rfl (by kernel_rfl)) rfl ?_
        exact⟨by first|rfl|(simp [zg,zy] <;> rfl)|(simp [*,zg,zy] <;> rfl),bw⟩
       replace c28:=Bool.eq_false_iff.mpr c28
       subst c28
       rw [if_neg (show ¬ (false=true) by decide)] at H
       by_cases c30:0≤x8_1
       ·rw [if_pos c30] at H
        have c30b0:=decide_eq_true c30
        clear c30
        by_cases c31:x8_1<(l0.length:Int)
        ·rw [if_pos c31] at H
         have c31b0:=decide_eq_true c31
         clear c31
         by_cases c32:(rd l0 x8_1)=0
         ·rw [if_pos c32] at H
          have c32b0:((rd l0 x8_1) == 0)=true:=beq_iff_eq.mpr c32
          have c32b1:((rd l0 x8_1) != 0)=false:=bne_eq_false_iff_eq.mpr c32
          clear c32
          obtain ⟨ji33,hji33⟩:∃ j_:Int,(wrap64 (x8_1+1))=j_:=⟨_,rfl⟩
          replace H:(if 0≤(ji33) then(if(ji33)<(l0.length:Int) then(if(rd l0 (ji33))=1 then(if(x7_1.size:Int) > 40 then(some (0,0,(⟨#[]⟩:ByteArray),0,1)) else ((zu.f kj22 x7_1).bind fun t352=>(if t352=true then(some (3,0,x7_1,wrap64 (x8_1+2),0)) else (some (0,0,(⟨#[]⟩:ByteArray),0,4))))) else (if(rd l0 (ji33))=255 then(if x8_1≤(ji33) then(if(ji33)≤(l0.length:Int) then(if x7_1.size+(strOfNums ((l0.take ((ji33):Int).toNat).drop (x8_1:Int).toNat)).size≤9223372036854775807 then(zo.l1 kj22 l0 (x7_1 ++ (strOfNums ((l0.take ((ji33):Int).toNat).drop (x8_1:Int).toNat))) (wrap64 (x8_1+2))) else (none)) else (none)) else (none)) else (some (0,0,(⟨#[]⟩:ByteArray),0,4)))) else (none)) else (none))=some (r1,r2,r3,r4,r5):=by first|(rw [hji33] at H;exact H)|(simp only [hji33] at H ⊢;exact H)
          have hji33w:(IntKind.i64.wrap (x8_1+1))=ji33:=(zqp _).trans hji33
          by_cases c34:0≤(ji33)
          ·rw [if_pos c34] at H
           have c34b0:=decide_eq_true c34
           clear c34
           by_cases c35:(ji33)<(l0.length:Int)
           ·rw [if_pos c35] at H
            have c35b0:=decide_eq_true c35
            clear c35
            by_cases c36:(rd l0 (ji33))=1
            ·rw [if_pos c36] at H
             have c36b0:((rd l0 (ji33)) == 1)=true:=beq_iff_eq.mpr c36
             have c36b1:((rd l0 (ji33)) != 1)=false:=bne_eq_false_iff_eq.mpr c36
             clear c36
             by_cases c37:(x7_1.size:Int) > 40
             ·rw [if_pos c37] at H
              have c37b0:=decide_eq_true c37
              have c37b1:decide (40<x7_1.size)=true:=decide_eq_true (by omega)
              clear c37
              simp only [Option.some.injEq,Prod.mk.injEq] at H
              obtain ⟨rfl,rfl,rfl,rfl,rfl⟩:=H
              have p347:0≤(x8_1:Int):=dt
              have q347:x8_1<(l0.length:Int):=dt
              obtain ⟨ad347,e347,hx347_0⟩:=Kd.zjb HR0.out x8_1 p347 q347
              obtain rfl:ad344=ad347:=(by injection e347)
              replace hx347_0:=(HB.out.cell (World.block_lt_of_cell? w _ hx347_0)).trans hx347_0
              replace p347:=eq_true p347
              replace q347:=eq_true q347
              have p348:0≤((ji33):Int):=dt
              have q348:(ji33)<(l0.length:Int):=dt
              obtain ⟨ad348,e348,hx348_0⟩:=Kd.zjb HR0.out (ji33) p348 q348
              obtain rfl:ad344=ad348:=(by injection e348)
              replace hx348_0:=(HB.out.cell (World.block_lt_of_cell? w _ hx348_0)).trans hx348_0
              replace p348:=eq_true p348
              replace q348:=eq_true q348
              obtain ⟨hcz38_0,hcz38_1,hcz38_2,hfz38_0,hfz38_1,hfz38_2⟩:=qd BK343.out
              go_wp2
              refine bodyPost_ret (zj2 rfl _ _ gb343 38 #[.int .i64 0,.int .i64 0,.string (⟨#[]⟩:ByteArray)] (0,0) _ rfl (by(with_reducible repeat(first|refine zz ?_ _|refine zk ?_|refine zj ?_ _));refine qw (cs:=#[.int .i64 0,.int .i64 0,.string x344002_1]) ?_ 2 _ rfl;(with_reducible repeat(first|refine zz ?_ _|refine zk ?_|refine zj ?_ _));refine qw (cs:=#[.int .i64 0,.int .i64 x344001_1,.string x344002_1]) ?_ 1 _ rfl;(with_reducible repeat(first|refine zz ?_ _|refine zk ?_|refine zj ?_ _));refine qw (cs:=#[.int .i64 x344000_1,.int .i64 x344001_1,.string x344002_1]) ?_ 0 _ rfl;(with_reducible repeat(first|refine zz ?_ _|refine zk ?_|refine zj ?_ _));exact BK343.out) Tryd.underlying38 rfl (by kernel_rfl)) rfl ?_
              exact⟨by first|rfl|(simp [zg,zy] <;> rfl)|(simp only [← hji33];first|rfl|(simp [zg,zy] <;> rfl))|(simp [*,zg,zy] <;> rfl),bw⟩
             rw [if_neg c37] at H
             have c37b0:=decide_eq_false c37
             have c37b1:decide (40<x7_1.size)=false:=decide_eq_false (by omega)
             clear c37
             replace H:=Option.bind_eq_some_iff.mp H
             obtain ⟨t352,A390,H⟩:=H
             replace H:(if t352=true then(some (3,0,x7_1,wrap64 (x8_1+2),0)) else (some (0,0,(⟨#[]⟩:ByteArray),0,4)))=some (r1,r2,r3,r4,r5):=H
             have A39:=zq.mk A390
             clear A390
             by_cases c40:t352=true
             ·subst c40
              rw [if_pos rfl] at H
              simp only [Option.some.injEq,Prod.mk.injEq] at H
              obtain ⟨rfl,rfl,rfl,rfl,rfl⟩:=H
              have p347:0≤(x8_1:Int):=dt
              have q347:x8_1<(l0.length:Int):=dt
              obtain ⟨ad347,e347,hx347_0⟩:=Kd.zjb HR0.out x8_1 p347 q347
              obtain rfl:ad344=ad347:=(by injection e347)
              replace hx347_0:=(HB.out.cell (World.block_lt_of_cell? w _ hx347_0)).trans hx347_0
              replace p347:=eq_true p347
              replace q347:=eq_true q347
              have p348:0≤((ji33):Int):=dt
              have q348:(ji33)<(l0.length:Int):=dt
              obtain ⟨ad348,e348,hx348_0⟩:=Kd.zjb HR0.out (ji33) p348 q348
              obtain rfl:ad344=ad348:=(by injection e348)
              replace hx348_0:=(HB.out.cell (World.block_lt_of_cell? w _ hx348_0)).trans hx348_0
              replace p348:=eq_true p348
              replace q348:=eq_true q348
              go_wp2_with (first|((with_reducible refine qh (f:=102) rfl ?_);refine zqn (some 109) rfl rfl Tryd.func102 (by kernel_rfl) rfl #[.string x7_1] rfl gs ?_;(with_reducible refine(zu.calls kj22 x7_1 true _ A39.out).mono ?_);rintro e w' ⟨rfl,⟨nd,rfl⟩⟩;refine⟨_,rfl,?_⟩;(try(rw [drewN_self wc];generalize hq_:World.drewN wc _=wc;have n0_:zq (wc.heap[gb343]? = some (.cells #[.int .i64 x344000_1,.int .i64 x344001_1,.string x344002_1] 38 (0,0))):=⟨by rw [← hq_];exact(up BK343.out)⟩;have n1_:zq (Below w.heap.size w wc):=⟨by rw [← hq_];exact bw⟩;clear BK343 HB hq_;have BK343:=n0_;have HB:=n1_;clear n0_ n1_));obtain ⟨hcz41_0,hcz41_1,hcz41_2,hfz41_0,hfz41_1,hfz41_2⟩:=qd BK343.out))
              refine bodyPost_ret (zj2 rfl _ _ gb343 38 #[.int .i64 3,.int .i64 0,.string x7_1] (0,0) _ rfl (by(with_reducible repeat(first|refine zz ?_ _|refine zk ?_|refine zj ?_ _));refine qw (cs:=#[.int .i64 3,.int .i64 0,.string x344002_1]) ?_ 2 _ rfl;(with_reducible repeat(first|refine zz ?_ _|refine zk ?_|refine zj ?_ _));refine qw (cs:=#[.int .i64 3,.int .i64 x344001_1,.string x344002_1]) ?_ 1 _ rfl;(with_reducible repeat(first|refine zz ?_ _|refine zk ?_|refine zj ?_ _));refine qw (cs:=#[.int .i64 x344000_1,.int .i64 x344001_1,.string x344002_1]) ?_ 0 _ rfl;(with_reducible repeat(first|refine zz ?_ _|refine zk ?_|refine zj ?_ _));exact BK343.out) Tryd.underlying38 rfl (by kernel_rfl)) rfl ?_
              exact⟨by first|rfl|(simp [zg,zy] <;> rfl)|(simp only [← hji33];first|rfl|(simp [zg,zy] <;> rfl))|(simp [*,zg,zy] <;> rfl),bw⟩
             replace c40:=Bool.eq_false_iff.mpr c40
             subst c40
             rw [if_neg (show ¬ (false=true) by decide)] at H
             simp only [Option.some.injEq,Prod.mk.injEq] at H
             obtain ⟨rfl,rfl,rfl,rfl,rfl⟩:=H
             have p347:0≤(x8_1:Int):=dt
             have q347:x8_1<(l0.length:Int):=dt
             obtain ⟨ad347,e347,hx347_0⟩:=Kd.zjb HR0.out x8_1 p347 q347
             obtain rfl:ad344=ad347:=(by injection e347)
             replace hx347_0:=(HB.out.cell (World.block_lt_of_cell? w _ hx347_0)).trans hx347_0
             replace p347:=eq_true p347
             replace q347:=eq_true q347
             have p348:0≤((ji33):Int):=dt
             have q348:(ji33)<(l0.length:Int):=dt
             obtain ⟨ad348,e348,hx348_0⟩:=Kd.zjb HR0.out (ji33) p348 q348
             obtain rfl:ad344=ad348:=(by injection e348)
             replace hx348_0:=(HB.out.cell (World.block_lt_of_cell? w _ hx348_0)).trans hx348_0
             replace p348:=eq_true p348
             replace q348:=eq_true q348
             go_wp2_with (first|((with_reducible refine qh (f:=102) rfl ?_);refine zqn (some 109) rfl rfl Tryd.func102 (by kernel_rfl) rfl #[.string x7_1] rfl gs ?_;(with_reducible refine(zu.calls kj22 x7_1 false _ A39.out).mono ?_);rintro e w' ⟨rfl,⟨nd,rfl⟩⟩;refine⟨_,rfl,?_⟩;(try(rw [drewN_self wc];generalize hq_:World.drewN wc _=wc;have n0_:zq (wc.heap[gb343]? = some (.cells #[.int .i64 x344000_1,.int .i64 x344001_1,.string x344002_1] 38 (0,0))):=⟨by rw [← hq_];exact(up BK343.out)⟩;have n1_:zq (Below w.heap.size w wc):=⟨by rw [← hq_];exact bw⟩;clear BK343 HB hq_;have BK343:=n0_;have HB:=n1_;clear n0_ n1_));obtain ⟨hcz42_0,hcz42_1,hcz42_2,hfz42_0,hfz42_1,hfz42_2⟩:=qd BK343.out))
             refine bodyPost_ret (zj2 rfl _ _ gb343 38 #[.int .i64 0,.int .i64 0,.string (⟨#[]⟩:ByteArray)] (0,0) _ rfl (by(with_reducible repeat(first|refine zz ?_ _|refine zk ?_|refine zj ?_ _));refine qw (cs:=#[.int .i64 0,.int .i64 0,.string x344002_1]) ?_ 2 _ rfl;(with_reducible repeat(first|refine zz ?_ _|refine zk ?_|refine zj ?_ _));refine qw (cs:=#[.int .i64 0,.int .i64 x344001_1,.string x344002_1]) ?_ 1 _ rfl;(with_reducible repeat(first|refine zz ?_ _|refine zk ?_|refine zj ?_ _));refine qw (cs:=#[.int .i64 x344000_1,.int .i64 x344001_1,.string x344002_1]) ?_ 0 _ rfl;(with_reducible repeat(first|refine zz ?_ _|refine zk ?_|refine zj ?_ _));exact BK343.out) Tryd.underlying38 rfl (by kernel_rfl)) rfl ?_
             exact⟨by first|rfl|(simp [zg,zy] <;> rfl)|(simp only [← hji33];first|rfl|(simp [zg,zy] <;> rfl))|(simp [*,zg,zy] <;> rfl),bw⟩
            rw [if_neg c36] at H
            have c36b0:((rd l0 (ji33)) == 1)=false:=beq_eq_false_iff_ne.mpr c36
            have c36b1:((rd l0 (ji33)) != 1)=true:=bne_iff_ne.mpr c36
            by_cases c43:(rd l0 (ji33))=255
            ·rw [if_pos c43] at H
             have c43b0:((rd l0 (ji33)) == 255)=true:=beq_iff_eq.mpr c43
             have c43b1:((rd l0 (ji33)) != 255)=false:=bne_eq_false_iff_eq.mpr c43
             clear c43
             have c44b0:=eq_true (dt:0≤x8_1)
             by_cases c45:x8_1≤(ji33)
             ·rw [if_pos c45] at H
              have c45b0:=eq_true c45
              have c45b1:=decide_eq_true c45
              clear c45
              by_cases c46:(ji33)≤(l0.length:Int)
              ·rw [if_pos c46] at H
               have c46b0:=eq_true c46
               have c46b1:=decide_eq_true c46
               clear c46
               by_cases c47:x7_1.size+(strOfNums ((l0.take ((ji33):Int).toNat).drop (x8_1:Int).toNat)).size≤9223372036854775807
               ·rw [if_pos c47] at H
                have c47b0:=eq_true c47
                have c47b1:=decide_eq_true c47
                try have c47b2:(9223372036854775807<x7_1.size+(strOfNums ((l0.take ((ji33):Int).toNat).drop (x8_1:Int).toNat)).size)=False:=eq_false (Nat.not_lt.2 c47)
                have H':=zq.mk H
                clear H
                have p347:0≤(x8_1:Int):=dt
                have q347:x8_1<(l0.length:Int):=dt
                obtain ⟨ad347,e347,hx347_0⟩:=Kd.zjb HR0.out x8_1 p347 q347
                obtain rfl:ad344=ad347:=(by injection e347)
                replace hx347_0:=(HB.out.cell (World.block_lt_of_cell? w _ hx347_0)).trans hx347_0
                replace p347:=eq_true p347
                replace q347:=eq_true q347
                have p348:0≤((ji33):Int):=dt
                have q348:(ji33)<(l0.length:Int):=dt
                obtain ⟨ad348,e348,hx348_0⟩:=Kd.zjb HR0.out (ji33) p348 q348
                obtain rfl:ad344=ad348:=(by injection e348)
                replace hx348_0:=(HB.out.cell (World.block_lt_of_cell? w _ hx348_0)).trans hx348_0
                replace p348:=eq_true p348
                replace q348:=eq_true q348
                have p349:0≤((ji33):Int):=dt
                have q349:(ji33)<(l0.length:Int):=dt
                obtain ⟨ad349,e349,hx349_0⟩:=Kd.zjb HR0.out (ji33) p349 q349
                obtain rfl:ad344=ad349:=(by injection e349)
                replace hx349_0:=(HB.out.cell (World.block_lt_of_cell? w _ hx349_0)).trans hx349_0
                replace p349:=eq_true p349
                replace q349:=eq_true q349
                obtain ⟨i048,hi048,_,hsz48,_⟩:=info_parts zxr
                obtain ⟨A48,hcut48,hA48,hC48⟩:=zvr (P:=Tryd.prog) (Value.int .u8) 0 30 5 .i64 .i64 Tryd.underlying30 hi048 hsz48 (some ad344) c0 l0 x8_1 (ji33) (dt) (by first|omega|exact dt) (dt) HC0.out
                have HR350:=zq.mk (Kd.zk3 (h1:=fun _=>rfl) (hA48 _ (Kd.zxw HR0.out)))
                have HC350:=zq.mk hC48
                clear hA48 hC48 hi048 hsz48
                have hcv49:=Kd.zk2 (P:=Tryd.prog) (A:=A48) (c:=(c0 - x8_1.toNat)) Tryd.underlying30 Tryd.underlying5 Tryd.underlying9 (Kd.qu HR350.out HB.out)
                (try rw [List.length_drop,List.length_take,Nat.min_eq_left (by first|omega|(simp only [eq_iff_iff,iff_true] at *;omega))] at hcv49)
                go_wp2
                go_roundg kj22
                case measure=>have:=HK1.out;have:=HJ22.out;omega
                case rel=>exact⟨(x7_1 ++ (strOfNums ((l0.take ((ji33):Int).toNat).drop (x8_1:Int).toNat))),(wrap64 (x8_1+2)),(x344000_1),(x344001_1),(x344002_1),(by first|rfl|(simp;done)|(simp only [← hji33] <;> (first|rfl|simp))|(simp [*];done)|(generalize ByteArray.toList _=q_;cases q_ <;> rfl)),vr,H',⟨by have:=HK1.out;have:=HJ22.out;omega⟩,⟨by(with_reducible repeat(first|refine zz ?_ _|refine zk ?_|refine zj ?_ _));exact BK343.out⟩,⟨bw⟩⟩
               rw [if_neg c47] at H
               exact absurd H (by simp)
              rw [if_neg c46] at H
              exact absurd H (by simp)
             rw [if_neg c45] at H
             exact absurd H (by simp)
            rw [if_neg c43] at H
            have c43b0:((rd l0 (ji33)) == 255)=false:=beq_eq_false_iff_ne.mpr c43
            have c43b1:((rd l0 (ji33)) != 255)=true:=bne_iff_ne.mpr c43
            simp only [Option.some.injEq,Prod.mk.injEq] at H
            obtain ⟨rfl,rfl,rfl,rfl,rfl⟩:=H
            have p347:0≤(x8_1:Int):=dt
            have q347:x8_1<(l0.length:Int):=dt
            obtain ⟨ad347,e347,hx347_0⟩:=Kd.zjb HR0.out x8_1 p347 q347
            obtain rfl:ad344=ad347:=(by injection e347)
            replace hx347_0:=(HB.out.cell (World.block_lt_of_cell? w _ hx347_0)).trans hx347_0
            replace p347:=eq_true p347
            replace q347:=eq_true q347
            have p348:0≤((ji33):Int):=dt
            have q348:(ji33)<(l0.length:Int):=dt
            obtain ⟨ad348,e348,hx348_0⟩:=Kd.zjb HR0.out (ji33) p348 q348
            obtain rfl:ad344=ad348:=(by injection e348)
            replace hx348_0:=(HB.out.cell (World.block_lt_of_cell? w _ hx348_0)).trans hx348_0
            replace p348:=eq_true p348
            replace q348:=eq_true q348
            have p349:0≤((ji33):Int):=dt
            have q349:(ji33)<(l0.length:Int):=dt
            obtain ⟨ad349,e349,hx349_0⟩:=Kd.zjb HR0.out (ji33) p349 q349
            obtain rfl:ad344=ad349:=(by injection e349)
            replace hx349_0:=(HB.out.cell (World.block_lt_of_cell? w _ hx349_0)).trans hx349_0
            replace p349:=eq_true p349
            replace q349:=eq_true q349
            obtain ⟨hcz50_0,hcz50_1,hcz50_2,hfz50_0,hfz50_1,hfz50_2⟩:=qd BK343.out
            go_wp2
            refine bodyPost_ret (zj2 rfl _ _ gb343 38 #[.int .i64 0,.int .i64 0,.string (⟨#[]⟩:ByteArray)] (0,0) _ rfl (by(with_reducible repeat(first|refine zz ?_ _|refine zk ?_|refine zj ?_ _));refine qw (cs:=#[.int .i64 0,.int .i64 0,.string x344002_1]) ?_ 2 _ rfl;(with_reducible repeat(first|refine zz ?_ _|refine zk ?_|refine zj ?_ _));refine qw (cs:=#[.int .i64 0,.int .i64 x344001_1,.string x344002_1]) ?_ 1 _ rfl;(with_reducible repeat(first|refine zz ?_ _|refine zk ?_|refine zj ?_ _));refine qw (cs:=#[.int .i64 x344000_1,.int .i64 x344001_1,.string x344002_1]) ?_ 0 _ rfl;(with_reducible repeat(first|refine zz ?_ _|refine zk ?_|refine zj ?_ _));exact BK343.out) Tryd.underlying38 rfl (by kernel_rfl)) rfl ?_
            exact⟨by first|rfl|(simp [zg,zy] <;> rfl)|(simp only [← hji33];first|rfl|(simp [zg,zy] <;> rfl))|(simp [*,zg,zy] <;> rfl),bw⟩
           rw [if_neg c35] at H
           exact absurd H (by simp)
          rw [if_neg c34] at H
          exact absurd H (by simp)
         rw [if_neg c32] at H
         have c32b0:((rd l0 x8_1) == 0)=false:=beq_eq_false_iff_ne.mpr c32
         have c32b1:((rd l0 x8_1) != 0)=true:=bne_iff_ne.mpr c32
         have c51b0:=eq_true (dt:0≤x8_1)
         by_cases c52:x8_1≤(wrap64 (x8_1+1))
         ·rw [if_pos c52] at H
          have c52b0:=eq_true c52
          have c52b1:=decide_eq_true c52
          by_cases c53:(wrap64 (x8_1+1))≤(l0.length:Int)
          ·rw [if_pos c53] at H
           have c53b0:=eq_true c53
           have c53b1:=decide_eq_true c53
           by_cases c54:x7_1.size+(strOfNums ((l0.take ((wrap64 (x8_1+1)):Int).toNat).drop (x8_1:Int).toNat)).size≤9223372036854775807
           ·rw [if_pos c54] at H
            have c54b0:=eq_true c54
            have c54b1:=decide_eq_true c54
            try have c54b2:(9223372036854775807<x7_1.size+(strOfNums ((l0.take ((wrap64 (x8_1+1)):Int).toNat).drop (x8_1:Int).toNat)).size)=False:=eq_false (Nat.not_lt.2 c54)
            have H':=zq.mk H
            clear H
            have p347:0≤(x8_1:Int):=dt
            have q347:x8_1<(l0.length:Int):=dt
            obtain ⟨ad347,e347,hx347_0⟩:=Kd.zjb HR0.out x8_1 p347 q347
            obtain rfl:ad344=ad347:=(by injection e347)
            replace hx347_0:=(HB.out.cell (World.block_lt_of_cell? w _ hx347_0)).trans hx347_0
            replace p347:=eq_true p347
            replace q347:=eq_true q347
            obtain ⟨i055,hi055,_,hsz55,_⟩:=info_parts zxr
            obtain ⟨A55,hcut55,hA55,hC55⟩:=zvr (P:=Tryd.prog) (Value.int .u8) 0 30 5 .i64 .i64 Tryd.underlying30 hi055 hsz55 (some ad344) c0 l0 x8_1 (wrap64 (x8_1+1)) (dt) (by first|omega|exact dt) (dt) HC0.out
            have HR351:=zq.mk (Kd.zk3 (h1:=fun _=>rfl) (hA55 _ (Kd.zxw HR0.out)))
            have HC351:=zq.mk hC55
            clear hA55 hC55 hi055 hsz55
            have hcv56:=Kd.zk2 (P:=Tryd.prog) (A:=A55) (c:=(c0 - x8_1.toNat)) Tryd.underlying30 Tryd.underlying5 Tryd.underlying9 (Kd.qu HR351.out HB.out)
            (try rw [List.length_drop,List.length_take,Nat.min_eq_left (by first|omega|(simp only [eq_iff_iff,iff_true] at *;omega))] at hcv56)
            go_wp2
            go_roundg kj22
            case measure=>have:=HK1.out;have:=HJ22.out;omega
            case rel=>exact⟨(x7_1 ++ (strOfNums ((l0.take ((wrap64 (x8_1+1)):Int).toNat).drop (x8_1:Int).toNat))),(wrap64 (x8_1+1)),(x344000_1),(x344001_1),(x344002_1),vr,vr,H',⟨by have:=HK1.out;have:=HJ22.out;omega⟩,⟨by(with_reducible repeat(first|refine zz ?_ _|refine zk ?_|refine zj ?_ _));exact BK343.out⟩,⟨bw⟩⟩
           rw [if_neg c54] at H
           exact absurd H (by simp)
          rw [if_neg c53] at H
          exact absurd H (by simp)
         rw [if_neg c52] at H
         exact absurd H (by simp)
        rw [if_neg c31] at H
        exact absurd H (by simp)
       rw [if_neg c30] at H
       exact absurd H (by simp)
  rw [if_neg c21] at H
  have c21b0:((rd l0 0) == 5)=false:=beq_eq_false_iff_ne.mpr c21
  have c21b1:((rd l0 0) != 5)=true:=bne_iff_ne.mpr c21
  simp only [Option.some.injEq,Prod.mk.injEq] at H
  obtain ⟨rfl,rfl,rfl,rfl,rfl⟩:=H
  go_enter Tryd.func66,Tryd.ntmps66
  go_wp2_with (first|((with_reducible refine qr (N:=2) rfl ?_);(try(refine ql (by rfl) ?_;dsimp only));refine qm ?hg (N:=2) ?hd (cs:=#[.int .i64 0,.int .i64 0,.string (⟨#[]⟩:ByteArray)]) (t:=38) ?hr ?_;(case hd=>rfl);(case hg=>rfl);(case hr=>first|(go_simp;done)|(go_simp;rfl));intro gb343 hg w57 hbox hb;have BK343:=zq.mk (hbox);have GW343:=zq.mk ((by rw [hg];exact(zw bw):w.heap.size≤gb343));have GE343:=zq.mk ((by rw [hg];exact(zw bw):w.heap.size≤gb343));replace HB:=zq.mk (zn bw hb);clear hb hbox hg;have p344:0≤(0:Int):=(by omega);have q344:0<(l0.length:Int):=dt;obtain ⟨ad344,e344,hx344_0⟩:=Kd.zjb HR0.out 0 p344 q344;cases e344;have qi344:(0<l0.length)=True:=eq_true (by omega);(try rw [show((0:Int)).toNat=0 from rfl] at hx344_0);(try rw [Addr.add_zero'] at hx344_0);replace hx344_0:=(HB.out.cell (World.block_lt_of_cell? w _ hx344_0)).trans hx344_0;replace p344:=eq_true p344;replace q344:=eq_true q344;obtain ⟨hcz58_0,hcz58_1,hcz58_2,hfz58_0,hfz58_1,hfz58_2⟩:=qd BK343.out))
  refine bodyPost_ret (zj2 rfl _ _ gb343 38 #[.int .i64 0,.int .i64 0,.string (⟨#[]⟩:ByteArray)] (0,0) _ rfl (by(with_reducible repeat(first|refine zz ?_ _|refine zk ?_|refine zj ?_ _));refine qw (cs:=#[.int .i64 0,.int .i64 0,.string (⟨#[]⟩:ByteArray)]) ?_ 2 _ rfl;(with_reducible repeat(first|refine zz ?_ _|refine zk ?_|refine zj ?_ _));refine qw (cs:=#[.int .i64 0,.int .i64 0,.string (⟨#[]⟩:ByteArray)]) ?_ 1 _ rfl;(with_reducible repeat(first|refine zz ?_ _|refine zk ?_|refine zj ?_ _));refine qw (cs:=#[.int .i64 0,.int .i64 0,.string (⟨#[]⟩:ByteArray)]) ?_ 0 _ rfl;(with_reducible repeat(first|refine zz ?_ _|refine zk ?_|refine zj ?_ _));exact BK343.out) Tryd.underlying38 rfl (by kernel_rfl)) rfl ?_
  exact⟨by first|rfl|(simp [zg,zy] <;> rfl)|(simp [*,zg,zy] <;> rfl),bw⟩
 rw [if_neg c2] at H
 exact absurd H (by simp)

end Go.Proofs.YthhejedfjgikdaaDoor.PRowReads
