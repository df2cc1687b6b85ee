-- Written by wip/pp of this repo (over the kit's print, with additions of this session); Lean checks every line.
import Derived.Test.YthhejedfjgikdaaDoorPRowEntriesx9
import Derived.Test.YthhejedfjgikdaaDoorPRowEntriesx10
namespace Go.Proofs.YthhejedfjgikdaaDoor.PRowEntries
open Go.RowKit Go.Proofs.YthhejedfjgikdaaDoorW.PrintWords Go.Proofs.YthhejedfjgikdaaDoorW.PrintLast Go.Proofs.YthhejedfjgikdaaDoorW.PrintMore
attribute [local go_sem] zxq zxo zx0 zxz zxg zxf zxp zxn   -- for this text's walks alone
set_option linter.unusedVariables false
set_option linter.unusedSimpArgs false

/-! ### zjj: function 122 -/
mutual
def zjj.j0:Nat→Bool→Int→Int→ByteArray→Option (Bool)
 | 0,_,_,_,_=>none
 | k+1,x52,x207000,x207001,x207002=>if x52=true then(some false) else (zjj.l0 k 0 x207000 x207001 x207002)
def zjj.l0:Nat→Int→Int→Int→ByteArray→Option (Bool)
 | 0,_,_,_,_=>none
 | k+1,x3,x207000,x207001,x207002=>if x3<(x207002.size:Int) then(if 0≤x3 then(if(bt x207002 x3) ≥ 48 then(if(bt x207002 x3) ≥ 97 then(if(bt x207002 x3)≤122 then(zjj.l0 k (wrap64 (x3+1)) x207000 x207001 x207002) else (if(bt x207002 x3)=95 then(zjj.l0 k (wrap64 (x3+1)) x207000 x207001 x207002) else (if(bt x207002 x3)≤57 then(if x3 > 0 then(zjj.l0 k (wrap64 (x3+1)) x207000 x207001 x207002) else (some false)) else (some false)))) else (if(bt x207002 x3)=95 then(zjj.l0 k (wrap64 (x3+1)) x207000 x207001 x207002) else (if(bt x207002 x3)≤57 then(if x3 > 0 then(zjj.l0 k (wrap64 (x3+1)) x207000 x207001 x207002) else (some false)) else (some false)))) else (if(bt x207002 x3) ≥ 97 then(if(bt x207002 x3)≤122 then(zjj.l0 k (wrap64 (x3+1)) x207000 x207001 x207002) else (if(bt x207002 x3)=95 then(zjj.l0 k (wrap64 (x3+1)) x207000 x207001 x207002) else (some false))) else (if(bt x207002 x3)=95 then(zjj.l0 k (wrap64 (x3+1)) x207000 x207001 x207002) else (some false)))) else (none)) else (some true)
end
def zjj.f (k:Nat) (a0_0:Int) (a0_1:Int) (a0_2:ByteArray):Option (Bool):=if a0_0=2 then(if a0_1 ≥ 0 then(some (a0_2.toList == ([]:List UInt8))) else (some false)) else (if a0_1=0 then(if a0_0=3 then(if(a0_2.size:Int)≤40 then((zjo.f k a0_2).bind fun t207=>(some t207)) else (some false)) else (if a0_0=4 then((zj9.f a0_2).bind fun t208=>(some t208)) else (if a0_0=1 then(if(a0_2.size:Int)<1 then(zjj.j0 k true a0_0 a0_1 a0_2) else (zjj.j0 k (decide ((a0_2.size:Int) > 12)) a0_0 a0_1 a0_2)) else (zjj.j0 k true a0_0 a0_1 a0_2)))) else (some false))
theorem zjj.mono_l:∀ k,(∀ y0 y1 y2 y3,LeO (zjj.j0 k y0 y1 y2 y3) (zjj.j0 (k+1) y0 y1 y2 y3))∧(∀ y0 y1 y2 y3,LeO (zjj.l0 k y0 y1 y2 y3) (zjj.l0 (k+1) y0 y1 y2 y3))
 | 0=>⟨fun _ _ _ _ r h=>by simp [zjj.j0] at h,fun _ _ _ _ r h=>by simp [zjj.l0] at h⟩
 | k+1=>by
  obtain ⟨ih0,ih1⟩:=zjj.mono_l k
  refine⟨?_,?_⟩
  ·intro y0 y1 y2 y3
   unfold zjj.j0
   repeat' first
   | (with_reducible first|exact ih0 _ _ _ _|exact ih1 _ _ _ _|exact zjo.mono _ _|exact LeO.refl _|exact LeO.none _|refine LeO.ite ?_ ?_|refine LeO.bind ?_ (fun _=>?_))
   | exact ih0 _ _ _ _
   | exact ih1 _ _ _ _
   | exact zjo.mono _ _
   | exact LeO.none _
   | refine LeO.ite ?_ ?_
   | refine LeO.bind ?_ (fun _=>?_)
  ·intro y0 y1 y2 y3
   unfold zjj.l0
   repeat' first
   | (with_reducible first|exact ih0 _ _ _ _|exact ih1 _ _ _ _|exact zjo.mono _ _|exact LeO.refl _|exact LeO.none _|refine LeO.ite ?_ ?_|refine LeO.bind ?_ (fun _=>?_))
   | exact ih0 _ _ _ _
   | exact ih1 _ _ _ _
   | exact zjo.mono _ _
   | exact LeO.none _
   | refine LeO.ite ?_ ?_
   | refine LeO.bind ?_ (fun _=>?_)
theorem zjj.mono:∀ a0 a1 a2 k,LeO (zjj.f k a0 a1 a2) (zjj.f (k+1) a0 a1 a2):=by
 intro a0 a1 a2 k
 obtain ⟨ih0,ih1⟩:=zjj.mono_l k
 unfold zjj.f
 repeat' first
   | (with_reducible first|exact ih0 _ _ _ _|exact ih1 _ _ _ _|exact zjo.mono _ _|exact LeO.refl _|exact LeO.none _|refine LeO.ite ?_ ?_|refine LeO.bind ?_ (fun _=>?_))
   | exact ih0 _ _ _ _
   | exact ih1 _ _ _ _
   | exact zjo.mono _ _
   | exact LeO.none _
   | refine LeO.ite ?_ ?_
   | refine LeO.bind ?_ (fun _=>?_)
set_option maxHeartbeats 8000000 in
set_option maxRecDepth 100000 in
theorem zjj.calls (k:Nat) (a0_0:Int) (a0_1:Int) (a0_2:ByteArray) (r:Bool) (w:World) (h:zjj.f k a0_0 a0_1 a0_2=some r) :
  Calls Tryd.prog 122 #[.agg #[.int .i64 a0_0,.int .i64 a0_1,.string a0_2]] w fun e w'=>e = .returned (.bool r)∧Below w.heap.size w w':=by
 have hu158:=Tryd.underlying158
 have HB:=zqd.mk (Below.refl w.heap.size w)
 have H:(if a0_0=2 then(if a0_1 ≥ 0 then(some (a0_2.toList == ([]:List UInt8))) else (some false)) else (if a0_1=0 then(if a0_0=3 then(if(a0_2.size:Int)≤40 then((zjo.f k a0_2).bind fun t207=>(some t207)) else (some false)) else (if a0_0=4 then((zj9.f a0_2).bind fun t208=>(some t208)) else (if a0_0=1 then(if(a0_2.size:Int)<1 then(zjj.j0 k true a0_0 a0_1 a0_2) else (zjj.j0 k (decide ((a0_2.size:Int) > 12)) a0_0 a0_1 a0_2)) else (zjj.j0 k true a0_0 a0_1 a0_2)))) else (some false)))=some r:=h
 clear h
 by_cases c2:a0_0=2
 ·rw [if_pos c2] at H
  have c2b0:(a0_0 == 2)=true:=beq_iff_eq.mpr c2
  have c2b1:(a0_0 != 2)=false:=bne_eq_false_iff_eq.mpr c2
  clear c2
  by_cases c3:a0_1 ≥ 0
  ·rw [if_pos c3] at H
   have c3b0:decide (0≤a0_1)=true:=decide_eq_true c3
   clear c3
   obtain rfl:=Option.some.inj H
   go_enter Tryd.func122,Tryd.ntmps122
   go_wp2_with (first|((with_reducible refine zqx (N:=1) rfl ?_);(try(refine zqz (by rfl) ?_;dsimp only));refine zqt ?hg (N:=1) ?hd (cs:=#[.int .i64 a0_0,.int .i64 a0_1,.string a0_2]) (t:=158) ?hr ?_;(case hd=>rfl);(case hg=>rfl);(case hr=>first|(go_simp;done)|(go_simp;rfl));intro gb206 hg w4 hbox hb;have n0_:=zqd.mk (zqn (by repeat(first|(with_reducible first|exact HB.out|apply zqb|apply zqa|apply zqc)|exact HB.out)) hb);have n1_:=zqd.mk (hbox);have n2_:=zqd.mk ((by rw [hg];exact(zqk (by repeat(first|(with_reducible first|exact HB.out|apply zqb|apply zqa|apply zqc)|exact HB.out))):w.heap.size≤gb206));have n3_:=zqd.mk ((by rw [hg];exact(zqk (by repeat(first|(with_reducible first|exact HB.out|apply zqb|apply zqa|apply zqc)|exact HB.out))):w.heap.size≤gb206));clear HB;have HB:=n0_;have BK206:=n1_;have GW206:=n2_;have GE206:=n3_;clear n0_ n1_ n2_ n3_ hb hbox hg;have hcz5_0:w4.cell? ⟨gb206,0,none⟩=some (.int .i64 a0_0):=(zqf BK206.out 0).trans rfl;have hcz5_1:w4.cell? ⟨gb206,1,none⟩=some (.int .i64 a0_1):=(zqf BK206.out 1).trans rfl;have hcz5_2:w4.cell? ⟨gb206,2,none⟩=some (.string a0_2):=(zqf BK206.out 2).trans rfl;have hfz5_0:=zqe BK206.out 0;have hfz5_1:=zqe BK206.out 1;have hfz5_2:=zqe BK206.out 2))
   go_ret
   exact⟨by first|rfl|(simp [zqm,zql] <;> rfl)|(simp [*,zqm,zql] <;> rfl),by repeat(first|(with_reducible first|exact HB.out|apply zqb|apply zqa|apply zqc|refine zqi ?_ GE206.out)|exact HB.out)⟩
  ·rw [if_neg c3] at H
   have c3b0:decide (0≤a0_1)=false:=decide_eq_false c3
   clear c3
   obtain rfl:=Option.some.inj H
   go_enter Tryd.func122,Tryd.ntmps122
   go_wp2_with (first|((with_reducible refine zqx (N:=1) rfl ?_);(try(refine zqz (by rfl) ?_;dsimp only));refine zqt ?hg (N:=1) ?hd (cs:=#[.int .i64 a0_0,.int .i64 a0_1,.string a0_2]) (t:=158) ?hr ?_;(case hd=>rfl);(case hg=>rfl);(case hr=>first|(go_simp;done)|(go_simp;rfl));intro gb206 hg w6 hbox hb;have n0_:=zqd.mk (zqn (by repeat(first|(with_reducible first|exact HB.out|apply zqb|apply zqa|apply zqc)|exact HB.out)) hb);have n1_:=zqd.mk (hbox);have n2_:=zqd.mk ((by rw [hg];exact(zqk (by repeat(first|(with_reducible first|exact HB.out|apply zqb|apply zqa|apply zqc)|exact HB.out))):w.heap.size≤gb206));have n3_:=zqd.mk ((by rw [hg];exact(zqk (by repeat(first|(with_reducible first|exact HB.out|apply zqb|apply zqa|apply zqc)|exact HB.out))):w.heap.size≤gb206));clear HB;have HB:=n0_;have BK206:=n1_;have GW206:=n2_;have GE206:=n3_;clear n0_ n1_ n2_ n3_ hb hbox hg;have hcz7_0:w6.cell? ⟨gb206,0,none⟩=some (.int .i64 a0_0):=(zqf BK206.out 0).trans rfl;have hcz7_1:w6.cell? ⟨gb206,1,none⟩=some (.int .i64 a0_1):=(zqf BK206.out 1).trans rfl;have hcz7_2:w6.cell? ⟨gb206,2,none⟩=some (.string a0_2):=(zqf BK206.out 2).trans rfl;have hfz7_0:=zqe BK206.out 0;have hfz7_1:=zqe BK206.out 1;have hfz7_2:=zqe BK206.out 2))
   go_ret
   exact⟨by first|rfl|(simp [zqm,zql] <;> rfl)|(simp [*,zqm,zql] <;> rfl),by repeat(first|(with_reducible first|exact HB.out|apply zqb|apply zqa|apply zqc|refine zqi ?_ GE206.out)|exact HB.out)⟩
 ·rw [if_neg c2] at H
  have c2b0:(a0_0 == 2)=false:=beq_eq_false_iff_ne.mpr c2
  have c2b1:(a0_0 != 2)=true:=bne_iff_ne.mpr c2
  by_cases c8:a0_1=0
  ·rw [if_pos c8] at H
   have c8b0:(a0_1 == 0)=true:=beq_iff_eq.mpr c8
   have c8b1:(a0_1 != 0)=false:=bne_eq_false_iff_eq.mpr c8
   clear c8
   by_cases c9:a0_0=3
   ·rw [if_pos c9] at H
    have c9b0:(a0_0 == 3)=true:=beq_iff_eq.mpr c9
    have c9b1:(a0_0 != 3)=false:=bne_eq_false_iff_eq.mpr c9
    clear c9
    by_cases c10:(a0_2.size:Int)≤40
    ·rw [if_pos c10] at H
     have c10b0:decide ((a0_2.size:Int)≤40)=true:=decide_eq_true c10
     have c10b1:decide (a0_2.size≤40)=true:=decide_eq_true (by omega)
     clear c10
     replace H:=Option.bind_eq_some_iff.mp H
     obtain ⟨t207,A110,H⟩:=H
     replace H:(some t207)=some r:=H
     have A11:=zqd.mk A110
     clear A110
     obtain rfl:=Option.some.inj H
     go_enter Tryd.func122,Tryd.ntmps122
     go_wp2_with (first|((with_reducible refine zqx (N:=1) rfl ?_);(try(refine zqz (by rfl) ?_;dsimp only));refine zqt ?hg (N:=1) ?hd (cs:=#[.int .i64 a0_0,.int .i64 a0_1,.string a0_2]) (t:=158) ?hr ?_;(case hd=>rfl);(case hg=>rfl);(case hr=>first|(go_simp;done)|(go_simp;rfl));intro gb206 hg w12 hbox hb;have n0_:=zqd.mk (zqn (by repeat(first|(with_reducible first|exact HB.out|apply zqb|apply zqa|apply zqc)|exact HB.out)) hb);have n1_:=zqd.mk (hbox);have n2_:=zqd.mk ((by rw [hg];exact(zqk (by repeat(first|(with_reducible first|exact HB.out|apply zqb|apply zqa|apply zqc)|exact HB.out))):w.heap.size≤gb206));have n3_:=zqd.mk ((by rw [hg];exact(zqk (by repeat(first|(with_reducible first|exact HB.out|apply zqb|apply zqa|apply zqc)|exact HB.out))):w.heap.size≤gb206));clear HB;have HB:=n0_;have BK206:=n1_;have GW206:=n2_;have GE206:=n3_;clear n0_ n1_ n2_ n3_ hb hbox hg;have hcz13_0:w12.cell? ⟨gb206,0,none⟩=some (.int .i64 a0_0):=(zqf BK206.out 0).trans rfl;have hcz13_1:w12.cell? ⟨gb206,1,none⟩=some (.int .i64 a0_1):=(zqf BK206.out 1).trans rfl;have hcz13_2:w12.cell? ⟨gb206,2,none⟩=some (.string a0_2):=(zqf BK206.out 2).trans rfl;have hfz13_0:=zqe BK206.out 0;have hfz13_1:=zqe BK206.out 1;have hfz13_2:=zqe BK206.out 2)|(go_at_call 102;(with_reducible refine(zjo.calls k a0_2 t207 _ A11.out).mono ?_);rintro e w' ⟨rfl,⟨nd,rfl⟩⟩))
     go_ret
     exact⟨by first|rfl|(simp [zqm,zql] <;> rfl)|(simp [*,zqm,zql] <;> rfl),by repeat(first|(with_reducible first|exact HB.out|apply zqb|apply zqa|apply zqc|refine zqi ?_ GE206.out)|exact HB.out)⟩
    ·rw [if_neg c10] at H
     have c10b0:decide ((a0_2.size:Int)≤40)=false:=decide_eq_false c10
     have c10b1:decide (a0_2.size≤40)=false:=decide_eq_false (by omega)
     clear c10
     obtain rfl:=Option.some.inj H
     go_enter Tryd.func122,Tryd.ntmps122
     go_wp2_with (first|((with_reducible refine zqx (N:=1) rfl ?_);(try(refine zqz (by rfl) ?_;dsimp only));refine zqt ?hg (N:=1) ?hd (cs:=#[.int .i64 a0_0,.int .i64 a0_1,.string a0_2]) (t:=158) ?hr ?_;(case hd=>rfl);(case hg=>rfl);(case hr=>first|(go_simp;done)|(go_simp;rfl));intro gb206 hg w14 hbox hb;have n0_:=zqd.mk (zqn (by repeat(first|(with_reducible first|exact HB.out|apply zqb|apply zqa|apply zqc)|exact HB.out)) hb);have n1_:=zqd.mk (hbox);have n2_:=zqd.mk ((by rw [hg];exact(zqk (by repeat(first|(with_reducible first|exact HB.out|apply zqb|apply zqa|apply zqc)|exact HB.out))):w.heap.size≤gb206));have n3_:=zqd.mk ((by rw [hg];exact(zqk (by repeat(first|(with_reducible first|exact HB.out|apply zqb|apply zqa|apply zqc)|exact HB.out))):w.heap.size≤gb206));clear HB;have HB:=n0_;have BK206:=n1_;have GW206:=n2_;have GE206:=n3_;clear n0_ n1_ n2_ n3_ hb hbox hg;have hcz15_0:w14.cell? ⟨gb206,0,none⟩=some (.int .i64 a0_0):=(zqf BK206.out 0).trans rfl;have hcz15_1:w14.cell? ⟨gb206,1,none⟩=some (.int .i64 a0_1):=(zqf BK206.out 1).trans rfl;have hcz15_2:w14.cell? ⟨gb206,2,none⟩=some (.string a0_2):=(zqf BK206.out 2).trans rfl;have hfz15_0:=zqe BK206.out 0;have hfz15_1:=zqe BK206.out 1;have hfz15_2:=zqe BK206.out 2))
     go_ret
     exact⟨by first|rfl|(simp [zqm,zql] <;> rfl)|(simp [*,zqm,zql] <;> rfl),by repeat(first|(with_reducible first|exact HB.out|apply zqb|apply zqa|apply zqc|refine zqi ?_ GE206.out)|exact HB.out)⟩
   ·rw [if_neg c9] at H
    have c9b0:(a0_0 == 3)=false:=beq_eq_false_iff_ne.mpr c9
    have c9b1:(a0_0 != 3)=true:=bne_iff_ne.mpr c9
    by_cases c16:a0_0=4
    ·rw [if_pos c16] at H
     have c16b0:(a0_0 == 4)=true:=beq_iff_eq.mpr c16
     have c16b1:(a0_0 != 4)=false:=bne_eq_false_iff_eq.mpr c16
     clear c16
     replace H:=Option.bind_eq_some_iff.mp H
     obtain ⟨t208,A170,H⟩:=H
     replace H:(some t208)=some r:=H
     have A17:=zqd.mk A170
     clear A170
     obtain rfl:=Option.some.inj H
     go_enter Tryd.func122,Tryd.ntmps122
     go_wp2_with (first|((with_reducible refine zqx (N:=1) rfl ?_);(try(refine zqz (by rfl) ?_;dsimp only));refine zqt ?hg (N:=1) ?hd (cs:=#[.int .i64 a0_0,.int .i64 a0_1,.string a0_2]) (t:=158) ?hr ?_;(case hd=>rfl);(case hg=>rfl);(case hr=>first|(go_simp;done)|(go_simp;rfl));intro gb206 hg w18 hbox hb;have n0_:=zqd.mk (zqn (by repeat(first|(with_reducible first|exact HB.out|apply zqb|apply zqa|apply zqc)|exact HB.out)) hb);have n1_:=zqd.mk (hbox);have n2_:=zqd.mk ((by rw [hg];exact(zqk (by repeat(first|(with_reducible first|exact HB.out|apply zqb|apply zqa|apply zqc)|exact HB.out))):w.heap.size≤gb206));have n3_:=zqd.mk ((by rw [hg];exact(zqk (by repeat(first|(with_reducible first|exact HB.out|apply zqb|apply zqa|apply zqc)|exact HB.out))):w.heap.size≤gb206));clear HB;have HB:=n0_;have BK206:=n1_;have GW206:=n2_;have GE206:=n3_;clear n0_ n1_ n2_ n3_ hb hbox hg;have hcz19_0:w18.cell? ⟨gb206,0,none⟩=some (.int .i64 a0_0):=(zqf BK206.out 0).trans rfl;have hcz19_1:w18.cell? ⟨gb206,1,none⟩=some (.int .i64 a0_1):=(zqf BK206.out 1).trans rfl;have hcz19_2:w18.cell? ⟨gb206,2,none⟩=some (.string a0_2):=(zqf BK206.out 2).trans rfl;have hfz19_0:=zqe BK206.out 0;have hfz19_1:=zqe BK206.out 1;have hfz19_2:=zqe BK206.out 2)|((with_reducible refine zqv (f:=149) rfl ?_);refine zq8 (some 37) rfl rfl Tryd.func149 (by kernel_rfl) rfl #[.string a0_2] rfl (by(try simp only [List.map_toArray,List.map_cons,List.map_nil]);first|done|rfl|(simp only [List.length_drop,List.length_take];rfl)) ?_;(with_reducible refine(zj9.calls a0_2 t208 _ A17.out).mono ?_);rintro e w' ⟨rfl,⟨nd,rfl⟩⟩;refine⟨_,rfl,?_⟩))
     go_ret
     exact⟨by first|rfl|(simp [zqm,zql] <;> rfl)|(simp [*,zqm,zql] <;> rfl),by repeat(first|(with_reducible first|exact HB.out|apply zqb|apply zqa|apply zqc|refine zqi ?_ GE206.out)|exact HB.out)⟩
    ·rw [if_neg c16] at H
     have c16b0:(a0_0 == 4)=false:=beq_eq_false_iff_ne.mpr c16
     have c16b1:(a0_0 != 4)=true:=bne_iff_ne.mpr c16
     have HC20:=zqd.mk H
     clear H
     go_enter Tryd.func122,Tryd.ntmps122
     go_upto_region 9 with (first|((with_reducible refine zqx (N:=1) rfl ?_);(try(refine zqz (by rfl) ?_;dsimp only));refine zqt ?hg (N:=1) ?hd (cs:=#[.int .i64 a0_0,.int .i64 a0_1,.string a0_2]) (t:=158) ?hr ?_;(case hd=>rfl);(case hg=>rfl);(case hr=>first|(go_simp;done)|(go_simp;rfl));intro gb206 hg w21 hbox hb;have n0_:=zqd.mk (zqn (by repeat(first|(with_reducible first|exact HB.out|apply zqb|apply zqa|apply zqc)|exact HB.out)) hb);have n1_:=zqd.mk (hbox);have n2_:=zqd.mk ((by rw [hg];exact(zqk (by repeat(first|(with_reducible first|exact HB.out|apply zqb|apply zqa|apply zqc)|exact HB.out))):w.heap.size≤gb206));have n3_:=zqd.mk ((by rw [hg];exact(zqk (by repeat(first|(with_reducible first|exact HB.out|apply zqb|apply zqa|apply zqc)|exact HB.out))):w.heap.size≤gb206));clear HB;have HB:=n0_;have BK206:=n1_;have GW206:=n2_;have GE206:=n3_;clear n0_ n1_ n2_ n3_ hb hbox hg;have hcz22_0:w21.cell? ⟨gb206,0,none⟩=some (.int .i64 a0_0):=(zqf BK206.out 0).trans rfl;have hcz22_1:w21.cell? ⟨gb206,1,none⟩=some (.int .i64 a0_1):=(zqf BK206.out 1).trans rfl;have hcz22_2:w21.cell? ⟨gb206,2,none⟩=some (.string a0_2):=(zqf BK206.out 2).trans rfl;have hfz22_0:=zqe BK206.out 0;have hfz22_1:=zqe BK206.out 1;have hfz22_2:=zqe BK206.out 2))
     (try simp only [Act.put,List.setIfInBounds_toArray,List.set_cons_zero,List.set_cons_succ])
     go_cut [52] (fun v52 wc => ∃ (kq:Nat) (x52_19:Bool),v52 = .bool x52_19∧zqd (zjj.j0 kq x52_19 a0_0 a0_1 a0_2=some r)∧zqd (kq≤k)∧zqd (wc.heap[gb206]? = some (.cells #[.int .i64 a0_0,.int .i64 a0_1,.string a0_2] 158 (0,0)))∧zqd (Below w.heap.size w wc))
     case first=>
      have H:=HC20.out
      clear HC20
      by_cases c23:a0_0=1
      ·rw [if_pos c23] at H
       have c23b0:(a0_0 == 1)=true:=beq_iff_eq.mpr c23
       have c23b1:(a0_0 != 1)=false:=bne_eq_false_iff_eq.mpr c23
       clear c23
       (first|rw [c23b0]|(simp only [zx6,zx8];rw [c23b0])|skip)
       by_cases c24:(a0_2.size:Int)<1
       ·rw [if_pos c24] at H
        have c24b0:decide ((a0_2.size:Int)<1)=true:=decide_eq_true c24
        have c24b1:decide (a0_2.size<1)=true:=decide_eq_true (by omega)
        clear c24
        have H':=zqd.mk H
        clear H
        have hcz25_0:w21.cell? ⟨gb206,0,none⟩=some (.int .i64 a0_0):=(zqf BK206.out 0).trans rfl
        have hcz25_1:w21.cell? ⟨gb206,1,none⟩=some (.int .i64 a0_1):=(zqf BK206.out 1).trans rfl
        have hcz25_2:w21.cell? ⟨gb206,2,none⟩=some (.string a0_2):=(zqf BK206.out 2).trans rfl
        have hfz25_0:=zqe BK206.out 0
        have hfz25_1:=zqe BK206.out 1
        have hfz25_2:=zqe BK206.out 2
        go_wp2
        go_meet
        case rel=>exact⟨_,(true),(by first|rfl|(simp;done)|(simp [*];done)|(generalize ByteArray.toList _=q_;cases q_ <;> rfl)),H',⟨by first|omega|exact Nat.le_refl _⟩,⟨by(with_reducible repeat(first|refine zqg ?_ _|refine zqj ?_|refine zqh ?_ _));exact BK206.out⟩,⟨by repeat(first|(with_reducible first|exact HB.out|apply zqb|apply zqa|apply zqc|refine zqi ?_ GE206.out)|exact HB.out)⟩⟩
       ·rw [if_neg c24] at H
        have c24b0:decide ((a0_2.size:Int)<1)=false:=decide_eq_false c24
        have c24b1:decide (a0_2.size<1)=false:=decide_eq_false (by omega)
        clear c24
        have H':=zqd.mk H
        clear H
        have hcz26_0:w21.cell? ⟨gb206,0,none⟩=some (.int .i64 a0_0):=(zqf BK206.out 0).trans rfl
        have hcz26_1:w21.cell? ⟨gb206,1,none⟩=some (.int .i64 a0_1):=(zqf BK206.out 1).trans rfl
        have hcz26_2:w21.cell? ⟨gb206,2,none⟩=some (.string a0_2):=(zqf BK206.out 2).trans rfl
        have hfz26_0:=zqe BK206.out 0
        have hfz26_1:=zqe BK206.out 1
        have hfz26_2:=zqe BK206.out 2
        go_wp2
        go_meet
        case rel=>exact⟨_,(decide ((a0_2.size:Int) > 12)),(by first|rfl|(simp;done)|(simp [*];done)|(generalize ByteArray.toList _=q_;cases q_ <;> rfl)),H',⟨by first|omega|exact Nat.le_refl _⟩,⟨by(with_reducible repeat(first|refine zqg ?_ _|refine zqj ?_|refine zqh ?_ _));exact BK206.out⟩,⟨by repeat(first|(with_reducible first|exact HB.out|apply zqb|apply zqa|apply zqc|refine zqi ?_ GE206.out)|exact HB.out)⟩⟩
      ·rw [if_neg c23] at H
       have c23b0:(a0_0 == 1)=false:=beq_eq_false_iff_ne.mpr c23
       have c23b1:(a0_0 != 1)=true:=bne_iff_ne.mpr c23
       (first|rw [c23b0]|(simp only [zx6,zx8];rw [c23b0])|skip)
       have H':=zqd.mk H
       clear H
       have hcz27_0:w21.cell? ⟨gb206,0,none⟩=some (.int .i64 a0_0):=(zqf BK206.out 0).trans rfl
       have hcz27_1:w21.cell? ⟨gb206,1,none⟩=some (.int .i64 a0_1):=(zqf BK206.out 1).trans rfl
       have hcz27_2:w21.cell? ⟨gb206,2,none⟩=some (.string a0_2):=(zqf BK206.out 2).trans rfl
       have hfz27_0:=zqe BK206.out 0
       have hfz27_1:=zqe BK206.out 1
       have hfz27_2:=zqe BK206.out 2
       go_wp2
       go_meet
       case rel=>exact⟨_,(true),(by first|rfl|(simp;done)|(simp [*];done)|(generalize ByteArray.toList _=q_;cases q_ <;> rfl)),H',⟨by first|omega|exact Nat.le_refl _⟩,⟨by(with_reducible repeat(first|refine zqg ?_ _|refine zqj ?_|refine zqh ?_ _));exact BK206.out⟩,⟨by repeat(first|(with_reducible first|exact HB.out|apply zqb|apply zqa|apply zqc|refine zqi ?_ GE206.out)|exact HB.out)⟩⟩
     case rest=>
      clear HC20
      try clear c1
      try clear c2
      try clear c2b0
      try clear c2b1
      try clear p2
      try clear c3
      try clear c3b0
      try clear c8
      try clear c8b0
      try clear c8b1
      try clear c9
      try clear c9b0
      try clear c9b1
      try clear c10
      try clear c10b0
      try clear c10b1
      try clear c12
      try clear c14
      try clear c16
      try clear c16b0
      try clear c16b1
      try clear c23
      try clear c23b0
      try clear c23b1
      try clear c24
      try clear c24b0
      try clear c24b1
      try clear hcz13_0
      try clear hcz13_1
      try clear hcz13_2
      try clear hcz15_0
      try clear hcz15_1
      try clear hcz15_2
      try clear hcz19_0
      try clear hcz19_1
      try clear hcz19_2
      try clear hcz22_0
      try clear hcz22_1
      try clear hcz22_2
      try clear hcz25_0
      try clear hcz25_1
      try clear hcz25_2
      try clear hcz26_0
      try clear hcz26_1
      try clear hcz26_2
      try clear hcz27_0
      try clear hcz27_1
      try clear hcz27_2
      try clear hcz5_0
      try clear hcz5_1
      try clear hcz5_2
      try clear hcz7_0
      try clear hcz7_1
      try clear hcz7_2
      try clear hfz13_0
      try clear hfz13_1
      try clear hfz13_2
      try clear hfz15_0
      try clear hfz15_1
      try clear hfz15_2
      try clear hfz19_0
      try clear hfz19_1
      try clear hfz19_2
      try clear hfz22_0
      try clear hfz22_1
      try clear hfz22_2
      try clear hfz25_0
      try clear hfz25_1
      try clear hfz25_2
      try clear hfz26_0
      try clear hfz26_1
      try clear hfz26_2
      try clear hfz27_0
      try clear hfz27_1
      try clear hfz27_2
      try clear hfz5_0
      try clear hfz5_1
      try clear hfz5_2
      try clear hfz7_0
      try clear hfz7_1
      try clear hfz7_2
      obtain ⟨kq,x52_19,rfl,HA,HJ19,BK206,HB⟩:=hcut
      cases kq with
      | zero=>exact absurd HA.out (by simp [zjj.j0])
      | succ kj19=>
       have H:=HA.out
       clear HA
       simp only [zjj.j0] at H
       by_cases c28:x52_19=true
       ·subst c28
        have H1:(some false)=some r:=by rw [if_pos rfl] at H;exact H
        clear H
        have H:=H1
        clear H1
        obtain rfl:=Option.some.inj H
        go_wp2
        go_ret
        exact⟨by first|rfl|(simp [zqm,zql] <;> rfl)|(simp [*,zqm,zql] <;> rfl),by repeat(first|(with_reducible first|exact HB.out|apply zqb|apply zqa|apply zqc|refine zqi ?_ GE206.out)|exact HB.out)⟩
       ·replace c28:=Bool.eq_false_iff.mpr c28
        subst c28
        have H1:(zjj.l0 kj19 0 a0_0 a0_1 a0_2)=some r:=by rw [if_neg (show ¬ (false=true) by decide)] at H;exact H
        clear H
        have H:=H1
        clear H1
        have H':=zqd.mk H
        clear H
        go_wp2
        go_loopg [3] kj19 (fun kq v3 w' => ∃ (x3_2:Int),v3 = .int .i64 x3_2∧zqd (zjj.l0 kq x3_2 a0_0 a0_1 a0_2=some r)∧zqd (kq≤kj19)∧zqd (w'.heap[gb206]? = some (.cells #[.int .i64 a0_0,.int .i64 a0_1,.string a0_2] 158 (0,0)))∧zqd (Below w.heap.size w w'))
        case atStart=>exact⟨(0),(by first|rfl|(simp;done)|(simp [*];done)|(generalize ByteArray.toList _=q_;cases q_ <;> rfl)),H',⟨Nat.le_refl _⟩,⟨by(with_reducible repeat(first|refine zqg ?_ _|refine zqj ?_|refine zqh ?_ _));exact BK206.out⟩,⟨by repeat(first|(with_reducible first|exact HB.out|apply zqb|apply zqa|apply zqc|refine zqi ?_ GE206.out)|exact HB.out)⟩⟩
        case round=>
         clear H'
         try clear c1
         try clear c2
         try clear c2b0
         try clear c2b1
         try clear p2
         try clear c3
         try clear c3b0
         try clear c8
         try clear c8b0
         try clear c8b1
         try clear c9
         try clear c9b0
         try clear c9b1
         try clear c10
         try clear c10b0
         try clear c10b1
         try clear c12
         try clear c14
         try clear c16
         try clear c16b0
         try clear c16b1
         try clear c23
         try clear c23b0
         try clear c23b1
         try clear c24
         try clear c24b0
         try clear c24b1
         try clear c28
         try clear hcz13_0
         try clear hcz13_1
         try clear hcz13_2
         try clear hcz15_0
         try clear hcz15_1
         try clear hcz15_2
         try clear hcz19_0
         try clear hcz19_1
         try clear hcz19_2
         try clear hcz22_0
         try clear hcz22_1
         try clear hcz22_2
         try clear hcz25_0
         try clear hcz25_1
         try clear hcz25_2
         try clear hcz26_0
         try clear hcz26_1
         try clear hcz26_2
         try clear hcz27_0
         try clear hcz27_1
         try clear hcz27_2
         try clear hcz5_0
         try clear hcz5_1
         try clear hcz5_2
         try clear hcz7_0
         try clear hcz7_1
         try clear hcz7_2
         try clear hfz13_0
         try clear hfz13_1
         try clear hfz13_2
         try clear hfz15_0
         try clear hfz15_1
         try clear hfz15_2
         try clear hfz19_0
         try clear hfz19_1
         try clear hfz19_2
         try clear hfz22_0
         try clear hfz22_1
         try clear hfz22_2
         try clear hfz25_0
         try clear hfz25_1
         try clear hfz25_2
         try clear hfz26_0
         try clear hfz26_1
         try clear hfz26_2
         try clear hfz27_0
         try clear hfz27_1
         try clear hfz27_2
         try clear hfz5_0
         try clear hfz5_1
         try clear hfz5_2
         try clear hfz7_0
         try clear hfz7_1
         try clear hfz7_2
         try clear p2
         obtain ⟨x3_2,rfl,HA,HK2,BK206,HB⟩:=hrel
         cases gk with
         | zero=>exact absurd HA.out (by simp [zjj.l0])
         | succ k2=>
          have H:=HA.out
          clear HA
          simp only [zjj.l0] at H
          by_cases c29:x3_2<(a0_2.size:Int)
          ·rw [if_pos c29] at H
           have c29b0:decide (x3_2<(a0_2.size:Int))=true:=decide_eq_true c29
           clear c29
           by_cases c30:0≤x3_2
           ·rw [if_pos c30] at H
            have c30b0:decide (0≤x3_2)=true:=decide_eq_true c30
            clear c30
            by_cases c32:(bt a0_2 x3_2) ≥ 48
            ·rw [if_pos c32] at H
             have c32b0:decide (48≤(bt a0_2 x3_2))=true:=decide_eq_true c32
             clear c32
             by_cases c33:(bt a0_2 x3_2) ≥ 97
             ·rw [if_pos c33] at H
              have c33b0:decide (97≤(bt a0_2 x3_2))=true:=decide_eq_true c33
              clear c33
              by_cases c34:(bt a0_2 x3_2)≤122
              ·rw [if_pos c34] at H
               have c34b0:decide ((bt a0_2 x3_2)≤122)=true:=decide_eq_true c34
               clear c34
               have H':=zqd.mk H
               clear H
               have hcz35_0:wr.cell? ⟨gb206,0,none⟩=some (.int .i64 a0_0):=(zqf BK206.out 0).trans rfl
               have hcz35_1:wr.cell? ⟨gb206,1,none⟩=some (.int .i64 a0_1):=(zqf BK206.out 1).trans rfl
               have hcz35_2:wr.cell? ⟨gb206,2,none⟩=some (.string a0_2):=(zqf BK206.out 2).trans rfl
               have hfz35_0:=zqe BK206.out 0
               have hfz35_1:=zqe BK206.out 1
               have hfz35_2:=zqe BK206.out 2
               have p31:0≤(x3_2:Int):=of_decide_eq_true (by first|(with_reducible assumption)|assumption)
               have q31:x3_2<(a0_2.size:Int):=of_decide_eq_true (by first|(with_reducible assumption)|assumption)
               have hx31:=zkb a0_2 x3_2
               replace p31:=eq_true p31
               replace q31:=eq_true q31
               go_wp2
               go_roundg k2
               case measure=>have:=HJ19.out;have:=HK2.out;omega
               case rel=>exact⟨(wrap64 (x3_2+1)),(by first|rfl|(simp;done)|(simp [*];done)|(generalize ByteArray.toList _=q_;cases q_ <;> rfl)),H',⟨by have:=HJ19.out;have:=HK2.out;omega⟩,⟨by(with_reducible repeat(first|refine zqg ?_ _|refine zqj ?_|refine zqh ?_ _));exact BK206.out⟩,⟨by repeat(first|(with_reducible first|exact HB.out|apply zqb|apply zqa|apply zqc|refine zqi ?_ GE206.out)|exact HB.out)⟩⟩
              ·rw [if_neg c34] at H
               have c34b0:decide ((bt a0_2 x3_2)≤122)=false:=decide_eq_false c34
               clear c34
               by_cases c36:(bt a0_2 x3_2)=95
               ·rw [if_pos c36] at H
                have c36b0:((bt a0_2 x3_2) == 95)=true:=beq_iff_eq.mpr c36
                have c36b1:((bt a0_2 x3_2) != 95)=false:=bne_eq_false_iff_eq.mpr c36
                clear c36
                have H':=zqd.mk H
                clear H
                have hcz37_0:wr.cell? ⟨gb206,0,none⟩=some (.int .i64 a0_0):=(zqf BK206.out 0).trans rfl
                have hcz37_1:wr.cell? ⟨gb206,1,none⟩=some (.int .i64 a0_1):=(zqf BK206.out 1).trans rfl
                have hcz37_2:wr.cell? ⟨gb206,2,none⟩=some (.string a0_2):=(zqf BK206.out 2).trans rfl
                have hfz37_0:=zqe BK206.out 0
                have hfz37_1:=zqe BK206.out 1
                have hfz37_2:=zqe BK206.out 2
                have p31:0≤(x3_2:Int):=of_decide_eq_true (by first|(with_reducible assumption)|assumption)
                have q31:x3_2<(a0_2.size:Int):=of_decide_eq_true (by first|(with_reducible assumption)|assumption)
                have hx31:=zkb a0_2 x3_2
                replace p31:=eq_true p31
                replace q31:=eq_true q31
                go_wp2
                go_roundg k2
                case measure=>have:=HJ19.out;have:=HK2.out;omega
                case rel=>exact⟨(wrap64 (x3_2+1)),(by first|rfl|(simp;done)|(simp [*];done)|(generalize ByteArray.toList _=q_;cases q_ <;> rfl)),H',⟨by have:=HJ19.out;have:=HK2.out;omega⟩,⟨by(with_reducible repeat(first|refine zqg ?_ _|refine zqj ?_|refine zqh ?_ _));exact BK206.out⟩,⟨by repeat(first|(with_reducible first|exact HB.out|apply zqb|apply zqa|apply zqc|refine zqi ?_ GE206.out)|exact HB.out)⟩⟩
               ·rw [if_neg c36] at H
                have c36b0:((bt a0_2 x3_2) == 95)=false:=beq_eq_false_iff_ne.mpr c36
                have c36b1:((bt a0_2 x3_2) != 95)=true:=bne_iff_ne.mpr c36
                by_cases c38:(bt a0_2 x3_2)≤57
                ·rw [if_pos c38] at H
                 have c38b0:decide ((bt a0_2 x3_2)≤57)=true:=decide_eq_true c38
                 clear c38
                 by_cases c39:x3_2 > 0
                 ·rw [if_pos c39] at H
                  have c39b0:decide (0<x3_2)=true:=decide_eq_true c39
                  clear c39
                  have H':=zqd.mk H
                  clear H
                  have hcz40_0:wr.cell? ⟨gb206,0,none⟩=some (.int .i64 a0_0):=(zqf BK206.out 0).trans rfl
                  have hcz40_1:wr.cell? ⟨gb206,1,none⟩=some (.int .i64 a0_1):=(zqf BK206.out 1).trans rfl
                  have hcz40_2:wr.cell? ⟨gb206,2,none⟩=some (.string a0_2):=(zqf BK206.out 2).trans rfl
                  have hfz40_0:=zqe BK206.out 0
                  have hfz40_1:=zqe BK206.out 1
                  have hfz40_2:=zqe BK206.out 2
                  have p31:0≤(x3_2:Int):=of_decide_eq_true (by first|(with_reducible assumption)|assumption)
                  have q31:x3_2<(a0_2.size:Int):=of_decide_eq_true (by first|(with_reducible assumption)|assumption)
                  have hx31:=zkb a0_2 x3_2
                  replace p31:=eq_true p31
                  replace q31:=eq_true q31
                  go_wp2
                  go_roundg k2
                  case measure=>have:=HJ19.out;have:=HK2.out;omega
                  case rel=>exact⟨(wrap64 (x3_2+1)),(by first|rfl|(simp;done)|(simp [*];done)|(generalize ByteArray.toList _=q_;cases q_ <;> rfl)),H',⟨by have:=HJ19.out;have:=HK2.out;omega⟩,⟨by(with_reducible repeat(first|refine zqg ?_ _|refine zqj ?_|refine zqh ?_ _));exact BK206.out⟩,⟨by repeat(first|(with_reducible first|exact HB.out|apply zqb|apply zqa|apply zqc|refine zqi ?_ GE206.out)|exact HB.out)⟩⟩
                 ·rw [if_neg c39] at H
                  have c39b0:decide (0<x3_2)=false:=decide_eq_false c39
                  clear c39
                  obtain rfl:=Option.some.inj H
                  have hcz41_0:wr.cell? ⟨gb206,0,none⟩=some (.int .i64 a0_0):=(zqf BK206.out 0).trans rfl
                  have hcz41_1:wr.cell? ⟨gb206,1,none⟩=some (.int .i64 a0_1):=(zqf BK206.out 1).trans rfl
                  have hcz41_2:wr.cell? ⟨gb206,2,none⟩=some (.string a0_2):=(zqf BK206.out 2).trans rfl
                  have hfz41_0:=zqe BK206.out 0
                  have hfz41_1:=zqe BK206.out 1
                  have hfz41_2:=zqe BK206.out 2
                  have p31:0≤(x3_2:Int):=of_decide_eq_true (by first|(with_reducible assumption)|assumption)
                  have q31:x3_2<(a0_2.size:Int):=of_decide_eq_true (by first|(with_reducible assumption)|assumption)
                  have hx31:=zkb a0_2 x3_2
                  replace p31:=eq_true p31
                  replace q31:=eq_true q31
                  go_wp2
                  go_ret
                  exact⟨by first|rfl|(simp [zqm,zql] <;> rfl)|(simp [*,zqm,zql] <;> rfl),by repeat(first|(with_reducible first|exact HB.out|apply zqb|apply zqa|apply zqc|refine zqi ?_ GE206.out)|exact HB.out)⟩
                ·rw [if_neg c38] at H
                 have c38b0:decide ((bt a0_2 x3_2)≤57)=false:=decide_eq_false c38
                 clear c38
                 obtain rfl:=Option.some.inj H
                 have hcz42_0:wr.cell? ⟨gb206,0,none⟩=some (.int .i64 a0_0):=(zqf BK206.out 0).trans rfl
                 have hcz42_1:wr.cell? ⟨gb206,1,none⟩=some (.int .i64 a0_1):=(zqf BK206.out 1).trans rfl
                 have hcz42_2:wr.cell? ⟨gb206,2,none⟩=some (.string a0_2):=(zqf BK206.out 2).trans rfl
                 have hfz42_0:=zqe BK206.out 0
                 have hfz42_1:=zqe BK206.out 1
                 have hfz42_2:=zqe BK206.out 2
                 have p31:0≤(x3_2:Int):=of_decide_eq_true (by first|(with_reducible assumption)|assumption)
                 have q31:x3_2<(a0_2.size:Int):=of_decide_eq_true (by first|(with_reducible assumption)|assumption)
                 have hx31:=zkb a0_2 x3_2
                 replace p31:=eq_true p31
                 replace q31:=eq_true q31
                 go_wp2
                 go_ret
                 exact⟨by first|rfl|(simp [zqm,zql] <;> rfl)|(simp [*,zqm,zql] <;> rfl),by repeat(first|(with_reducible first|exact HB.out|apply zqb|apply zqa|apply zqc|refine zqi ?_ GE206.out)|exact HB.out)⟩
             ·rw [if_neg c33] at H
              have c33b0:decide (97≤(bt a0_2 x3_2))=false:=decide_eq_false c33
              clear c33
              by_cases c43:(bt a0_2 x3_2)=95
              ·rw [if_pos c43] at H
               have c43b0:((bt a0_2 x3_2) == 95)=true:=beq_iff_eq.mpr c43
               have c43b1:((bt a0_2 x3_2) != 95)=false:=bne_eq_false_iff_eq.mpr c43
               clear c43
               have H':=zqd.mk H
               clear H
               have hcz44_0:wr.cell? ⟨gb206,0,none⟩=some (.int .i64 a0_0):=(zqf BK206.out 0).trans rfl
               have hcz44_1:wr.cell? ⟨gb206,1,none⟩=some (.int .i64 a0_1):=(zqf BK206.out 1).trans rfl
               have hcz44_2:wr.cell? ⟨gb206,2,none⟩=some (.string a0_2):=(zqf BK206.out 2).trans rfl
               have hfz44_0:=zqe BK206.out 0
               have hfz44_1:=zqe BK206.out 1
               have hfz44_2:=zqe BK206.out 2
               have p31:0≤(x3_2:Int):=of_decide_eq_true (by first|(with_reducible assumption)|assumption)
               have q31:x3_2<(a0_2.size:Int):=of_decide_eq_true (by first|(with_reducible assumption)|assumption)
               have hx31:=zkb a0_2 x3_2
               replace p31:=eq_true p31
               replace q31:=eq_true q31
               go_wp2
               go_roundg k2
               case measure=>have:=HJ19.out;have:=HK2.out;omega
               case rel=>exact⟨(wrap64 (x3_2+1)),(by first|rfl|(simp;done)|(simp [*];done)|(generalize ByteArray.toList _=q_;cases q_ <;> rfl)),H',⟨by have:=HJ19.out;have:=HK2.out;omega⟩,⟨by(with_reducible repeat(first|refine zqg ?_ _|refine zqj ?_|refine zqh ?_ _));exact BK206.out⟩,⟨by repeat(first|(with_reducible first|exact HB.out|apply zqb|apply zqa|apply zqc|refine zqi ?_ GE206.out)|exact HB.out)⟩⟩
              ·rw [if_neg c43] at H
               have c43b0:((bt a0_2 x3_2) == 95)=false:=beq_eq_false_iff_ne.mpr c43
               have c43b1:((bt a0_2 x3_2) != 95)=true:=bne_iff_ne.mpr c43
               by_cases c45:(bt a0_2 x3_2)≤57
               ·rw [if_pos c45] at H
                have c45b0:decide ((bt a0_2 x3_2)≤57)=true:=decide_eq_true c45
                clear c45
                by_cases c46:x3_2 > 0
                ·rw [if_pos c46] at H
                 have c46b0:decide (0<x3_2)=true:=decide_eq_true c46
                 clear c46
                 have H':=zqd.mk H
                 clear H
                 have hcz47_0:wr.cell? ⟨gb206,0,none⟩=some (.int .i64 a0_0):=(zqf BK206.out 0).trans rfl
                 have hcz47_1:wr.cell? ⟨gb206,1,none⟩=some (.int .i64 a0_1):=(zqf BK206.out 1).trans rfl
                 have hcz47_2:wr.cell? ⟨gb206,2,none⟩=some (.string a0_2):=(zqf BK206.out 2).trans rfl
                 have hfz47_0:=zqe BK206.out 0
                 have hfz47_1:=zqe BK206.out 1
                 have hfz47_2:=zqe BK206.out 2
                 have p31:0≤(x3_2:Int):=of_decide_eq_true (by first|(with_reducible assumption)|assumption)
                 have q31:x3_2<(a0_2.size:Int):=of_decide_eq_true (by first|(with_reducible assumption)|assumption)
                 have hx31:=zkb a0_2 x3_2
                 replace p31:=eq_true p31
                 replace q31:=eq_true q31
                 go_wp2
                 go_roundg k2
                 case measure=>have:=HJ19.out;have:=HK2.out;omega
                 case rel=>exact⟨(wrap64 (x3_2+1)),(by first|rfl|(simp;done)|(simp [*];done)|(generalize ByteArray.toList _=q_;cases q_ <;> rfl)),H',⟨by have:=HJ19.out;have:=HK2.out;omega⟩,⟨by(with_reducible repeat(first|refine zqg ?_ _|refine zqj ?_|refine zqh ?_ _));exact BK206.out⟩,⟨by repeat(first|(with_reducible first|exact HB.out|apply zqb|apply zqa|apply zqc|refine zqi ?_ GE206.out)|exact HB.out)⟩⟩
                ·rw [if_neg c46] at H
                 have c46b0:decide (0<x3_2)=false:=decide_eq_false c46
                 clear c46
                 obtain rfl:=Option.some.inj H
                 have hcz48_0:wr.cell? ⟨gb206,0,none⟩=some (.int .i64 a0_0):=(zqf BK206.out 0).trans rfl
                 have hcz48_1:wr.cell? ⟨gb206,1,none⟩=some (.int .i64 a0_1):=(zqf BK206.out 1).trans rfl
                 have hcz48_2:wr.cell? ⟨gb206,2,none⟩=some (.string a0_2):=(zqf BK206.out 2).trans rfl
                 have hfz48_0:=zqe BK206.out 0
                 have hfz48_1:=zqe BK206.out 1
                 have hfz48_2:=zqe BK206.out 2
                 have p31:0≤(x3_2:Int):=of_decide_eq_true (by first|(with_reducible assumption)|assumption)
                 have q31:x3_2<(a0_2.size:Int):=of_decide_eq_true (by first|(with_reducible assumption)|assumption)
                 have hx31:=zkb a0_2 x3_2
                 replace p31:=eq_true p31
                 replace q31:=eq_true q31
                 go_wp2
                 go_ret
                 exact⟨by first|rfl|(simp [zqm,zql] <;> rfl)|(simp [*,zqm,zql] <;> rfl),by repeat(first|(with_reducible first|exact HB.out|apply zqb|apply zqa|apply zqc|refine zqi ?_ GE206.out)|exact HB.out)⟩
               ·rw [if_neg c45] at H
                have c45b0:decide ((bt a0_2 x3_2)≤57)=false:=decide_eq_false c45
                clear c45
                obtain rfl:=Option.some.inj H
                have hcz49_0:wr.cell? ⟨gb206,0,none⟩=some (.int .i64 a0_0):=(zqf BK206.out 0).trans rfl
                have hcz49_1:wr.cell? ⟨gb206,1,none⟩=some (.int .i64 a0_1):=(zqf BK206.out 1).trans rfl
                have hcz49_2:wr.cell? ⟨gb206,2,none⟩=some (.string a0_2):=(zqf BK206.out 2).trans rfl
                have hfz49_0:=zqe BK206.out 0
                have hfz49_1:=zqe BK206.out 1
                have hfz49_2:=zqe BK206.out 2
                have p31:0≤(x3_2:Int):=of_decide_eq_true (by first|(with_reducible assumption)|assumption)
                have q31:x3_2<(a0_2.size:Int):=of_decide_eq_true (by first|(with_reducible assumption)|assumption)
                have hx31:=zkb a0_2 x3_2
                replace p31:=eq_true p31
                replace q31:=eq_true q31
                go_wp2
                go_ret
                exact⟨by first|rfl|(simp [zqm,zql] <;> rfl)|(simp [*,zqm,zql] <;> rfl),by repeat(first|(with_reducible first|exact HB.out|apply zqb|apply zqa|apply zqc|refine zqi ?_ GE206.out)|exact HB.out)⟩
            ·rw [if_neg c32] at H
             have c32b0:decide (48≤(bt a0_2 x3_2))=false:=decide_eq_false c32
             clear c32
             by_cases c50:(bt a0_2 x3_2) ≥ 97
             ·rw [if_pos c50] at H
              have c50b0:decide (97≤(bt a0_2 x3_2))=true:=decide_eq_true c50
              clear c50
              by_cases c51:(bt a0_2 x3_2)≤122
              ·rw [if_pos c51] at H
               have c51b0:decide ((bt a0_2 x3_2)≤122)=true:=decide_eq_true c51
               clear c51
               have H':=zqd.mk H
               clear H
               have hcz52_0:wr.cell? ⟨gb206,0,none⟩=some (.int .i64 a0_0):=(zqf BK206.out 0).trans rfl
               have hcz52_1:wr.cell? ⟨gb206,1,none⟩=some (.int .i64 a0_1):=(zqf BK206.out 1).trans rfl
               have hcz52_2:wr.cell? ⟨gb206,2,none⟩=some (.string a0_2):=(zqf BK206.out 2).trans rfl
               have hfz52_0:=zqe BK206.out 0
               have hfz52_1:=zqe BK206.out 1
               have hfz52_2:=zqe BK206.out 2
               have p31:0≤(x3_2:Int):=of_decide_eq_true (by first|(with_reducible assumption)|assumption)
               have q31:x3_2<(a0_2.size:Int):=of_decide_eq_true (by first|(with_reducible assumption)|assumption)
               have hx31:=zkb a0_2 x3_2
               replace p31:=eq_true p31
               replace q31:=eq_true q31
               go_wp2
               go_roundg k2
               case measure=>have:=HJ19.out;have:=HK2.out;omega
               case rel=>exact⟨(wrap64 (x3_2+1)),(by first|rfl|(simp;done)|(simp [*];done)|(generalize ByteArray.toList _=q_;cases q_ <;> rfl)),H',⟨by have:=HJ19.out;have:=HK2.out;omega⟩,⟨by(with_reducible repeat(first|refine zqg ?_ _|refine zqj ?_|refine zqh ?_ _));exact BK206.out⟩,⟨by repeat(first|(with_reducible first|exact HB.out|apply zqb|apply zqa|apply zqc|refine zqi ?_ GE206.out)|exact HB.out)⟩⟩
              ·rw [if_neg c51] at H
               have c51b0:decide ((bt a0_2 x3_2)≤122)=false:=decide_eq_false c51
               clear c51
               by_cases c53:(bt a0_2 x3_2)=95
               ·rw [if_pos c53] at H
                have c53b0:((bt a0_2 x3_2) == 95)=true:=beq_iff_eq.mpr c53
                have c53b1:((bt a0_2 x3_2) != 95)=false:=bne_eq_false_iff_eq.mpr c53
                clear c53
                have H':=zqd.mk H
                clear H
                have hcz54_0:wr.cell? ⟨gb206,0,none⟩=some (.int .i64 a0_0):=(zqf BK206.out 0).trans rfl
                have hcz54_1:wr.cell? ⟨gb206,1,none⟩=some (.int .i64 a0_1):=(zqf BK206.out 1).trans rfl
                have hcz54_2:wr.cell? ⟨gb206,2,none⟩=some (.string a0_2):=(zqf BK206.out 2).trans rfl
                have hfz54_0:=zqe BK206.out 0
                have hfz54_1:=zqe BK206.out 1
                have hfz54_2:=zqe BK206.out 2
                have p31:0≤(x3_2:Int):=of_decide_eq_true (by first|(with_reducible assumption)|assumption)
                have q31:x3_2<(a0_2.size:Int):=of_decide_eq_true (by first|(with_reducible assumption)|assumption)
                have hx31:=zkb a0_2 x3_2
                replace p31:=eq_true p31
                replace q31:=eq_true q31
                go_wp2
                go_roundg k2
                case measure=>have:=HJ19.out;have:=HK2.out;omega
                case rel=>exact⟨(wrap64 (x3_2+1)),(by first|rfl|(simp;done)|(simp [*];done)|(generalize ByteArray.toList _=q_;cases q_ <;> rfl)),H',⟨by have:=HJ19.out;have:=HK2.out;omega⟩,⟨by(with_reducible repeat(first|refine zqg ?_ _|refine zqj ?_|refine zqh ?_ _));exact BK206.out⟩,⟨by repeat(first|(with_reducible first|exact HB.out|apply zqb|apply zqa|apply zqc|refine zqi ?_ GE206.out)|exact HB.out)⟩⟩
               ·rw [if_neg c53] at H
                have c53b0:((bt a0_2 x3_2) == 95)=false:=beq_eq_false_iff_ne.mpr c53
                have c53b1:((bt a0_2 x3_2) != 95)=true:=bne_iff_ne.mpr c53
                obtain rfl:=Option.some.inj H
                have hcz55_0:wr.cell? ⟨gb206,0,none⟩=some (.int .i64 a0_0):=(zqf BK206.out 0).trans rfl
                have hcz55_1:wr.cell? ⟨gb206,1,none⟩=some (.int .i64 a0_1):=(zqf BK206.out 1).trans rfl
                have hcz55_2:wr.cell? ⟨gb206,2,none⟩=some (.string a0_2):=(zqf BK206.out 2).trans rfl
                have hfz55_0:=zqe BK206.out 0
                have hfz55_1:=zqe BK206.out 1
                have hfz55_2:=zqe BK206.out 2
                have p31:0≤(x3_2:Int):=of_decide_eq_true (by first|(with_reducible assumption)|assumption)
                have q31:x3_2<(a0_2.size:Int):=of_decide_eq_true (by first|(with_reducible assumption)|assumption)
                have hx31:=zkb a0_2 x3_2
                replace p31:=eq_true p31
                replace q31:=eq_true q31
                go_wp2
                go_ret
                exact⟨by first|rfl|(simp [zqm,zql] <;> rfl)|(simp [*,zqm,zql] <;> rfl),by repeat(first|(with_reducible first|exact HB.out|apply zqb|apply zqa|apply zqc|refine zqi ?_ GE206.out)|exact HB.out)⟩
             ·rw [if_neg c50] at H
              have c50b0:decide (97≤(bt a0_2 x3_2))=false:=decide_eq_false c50
              clear c50
              by_cases c56:(bt a0_2 x3_2)=95
              ·rw [if_pos c56] at H
               have c56b0:((bt a0_2 x3_2) == 95)=true:=beq_iff_eq.mpr c56
               have c56b1:((bt a0_2 x3_2) != 95)=false:=bne_eq_false_iff_eq.mpr c56
               clear c56
               have H':=zqd.mk H
               clear H
               have hcz57_0:wr.cell? ⟨gb206,0,none⟩=some (.int .i64 a0_0):=(zqf BK206.out 0).trans rfl
               have hcz57_1:wr.cell? ⟨gb206,1,none⟩=some (.int .i64 a0_1):=(zqf BK206.out 1).trans rfl
               have hcz57_2:wr.cell? ⟨gb206,2,none⟩=some (.string a0_2):=(zqf BK206.out 2).trans rfl
               have hfz57_0:=zqe BK206.out 0
               have hfz57_1:=zqe BK206.out 1
               have hfz57_2:=zqe BK206.out 2
               have p31:0≤(x3_2:Int):=of_decide_eq_true (by first|(with_reducible assumption)|assumption)
               have q31:x3_2<(a0_2.size:Int):=of_decide_eq_true (by first|(with_reducible assumption)|assumption)
               have hx31:=zkb a0_2 x3_2
               replace p31:=eq_true p31
               replace q31:=eq_true q31
               go_wp2
               go_roundg k2
               case measure=>have:=HJ19.out;have:=HK2.out;omega
               case rel=>exact⟨(wrap64 (x3_2+1)),(by first|rfl|(simp;done)|(simp [*];done)|(generalize ByteArray.toList _=q_;cases q_ <;> rfl)),H',⟨by have:=HJ19.out;have:=HK2.out;omega⟩,⟨by(with_reducible repeat(first|refine zqg ?_ _|refine zqj ?_|refine zqh ?_ _));exact BK206.out⟩,⟨by repeat(first|(with_reducible first|exact HB.out|apply zqb|apply zqa|apply zqc|refine zqi ?_ GE206.out)|exact HB.out)⟩⟩
              ·rw [if_neg c56] at H
               have c56b0:((bt a0_2 x3_2) == 95)=false:=beq_eq_false_iff_ne.mpr c56
               have c56b1:((bt a0_2 x3_2) != 95)=true:=bne_iff_ne.mpr c56
               obtain rfl:=Option.some.inj H
               have hcz58_0:wr.cell? ⟨gb206,0,none⟩=some (.int .i64 a0_0):=(zqf BK206.out 0).trans rfl
               have hcz58_1:wr.cell? ⟨gb206,1,none⟩=some (.int .i64 a0_1):=(zqf BK206.out 1).trans rfl
               have hcz58_2:wr.cell? ⟨gb206,2,none⟩=some (.string a0_2):=(zqf BK206.out 2).trans rfl
               have hfz58_0:=zqe BK206.out 0
               have hfz58_1:=zqe BK206.out 1
               have hfz58_2:=zqe BK206.out 2
               have p31:0≤(x3_2:Int):=of_decide_eq_true (by first|(with_reducible assumption)|assumption)
               have q31:x3_2<(a0_2.size:Int):=of_decide_eq_true (by first|(with_reducible assumption)|assumption)
               have hx31:=zkb a0_2 x3_2
               replace p31:=eq_true p31
               replace q31:=eq_true q31
               go_wp2
               go_ret
               exact⟨by first|rfl|(simp [zqm,zql] <;> rfl)|(simp [*,zqm,zql] <;> rfl),by repeat(first|(with_reducible first|exact HB.out|apply zqb|apply zqa|apply zqc|refine zqi ?_ GE206.out)|exact HB.out)⟩
           ·rw [if_neg c30] at H
            exact absurd H (by simp)
          ·rw [if_neg c29] at H
           have c29b0:decide (x3_2<(a0_2.size:Int))=false:=decide_eq_false c29
           clear c29
           obtain rfl:=Option.some.inj H
           have hcz59_0:wr.cell? ⟨gb206,0,none⟩=some (.int .i64 a0_0):=(zqf BK206.out 0).trans rfl
           have hcz59_1:wr.cell? ⟨gb206,1,none⟩=some (.int .i64 a0_1):=(zqf BK206.out 1).trans rfl
           have hcz59_2:wr.cell? ⟨gb206,2,none⟩=some (.string a0_2):=(zqf BK206.out 2).trans rfl
           have hfz59_0:=zqe BK206.out 0
           have hfz59_1:=zqe BK206.out 1
           have hfz59_2:=zqe BK206.out 2
           go_wp2
           go_ret
           exact⟨by first|rfl|(simp [zqm,zql] <;> rfl)|(simp [*,zqm,zql] <;> rfl),by repeat(first|(with_reducible first|exact HB.out|apply zqb|apply zqa|apply zqc|refine zqi ?_ GE206.out)|exact HB.out)⟩
  ·rw [if_neg c8] at H
   have c8b0:(a0_1 == 0)=false:=beq_eq_false_iff_ne.mpr c8
   have c8b1:(a0_1 != 0)=true:=bne_iff_ne.mpr c8
   obtain rfl:=Option.some.inj H
   go_enter Tryd.func122,Tryd.ntmps122
   go_wp2_with (first|((with_reducible refine zqx (N:=1) rfl ?_);(try(refine zqz (by rfl) ?_;dsimp only));refine zqt ?hg (N:=1) ?hd (cs:=#[.int .i64 a0_0,.int .i64 a0_1,.string a0_2]) (t:=158) ?hr ?_;(case hd=>rfl);(case hg=>rfl);(case hr=>first|(go_simp;done)|(go_simp;rfl));intro gb206 hg w60 hbox hb;have n0_:=zqd.mk (zqn (by repeat(first|(with_reducible first|exact HB.out|apply zqb|apply zqa|apply zqc)|exact HB.out)) hb);have n1_:=zqd.mk (hbox);have n2_:=zqd.mk ((by rw [hg];exact(zqk (by repeat(first|(with_reducible first|exact HB.out|apply zqb|apply zqa|apply zqc)|exact HB.out))):w.heap.size≤gb206));have n3_:=zqd.mk ((by rw [hg];exact(zqk (by repeat(first|(with_reducible first|exact HB.out|apply zqb|apply zqa|apply zqc)|exact HB.out))):w.heap.size≤gb206));clear HB;have HB:=n0_;have BK206:=n1_;have GW206:=n2_;have GE206:=n3_;clear n0_ n1_ n2_ n3_ hb hbox hg;have hcz61_0:w60.cell? ⟨gb206,0,none⟩=some (.int .i64 a0_0):=(zqf BK206.out 0).trans rfl;have hcz61_1:w60.cell? ⟨gb206,1,none⟩=some (.int .i64 a0_1):=(zqf BK206.out 1).trans rfl;have hcz61_2:w60.cell? ⟨gb206,2,none⟩=some (.string a0_2):=(zqf BK206.out 2).trans rfl;have hfz61_0:=zqe BK206.out 0;have hfz61_1:=zqe BK206.out 1;have hfz61_2:=zqe BK206.out 2))
   go_ret
   exact⟨by first|rfl|(simp [zqm,zql] <;> rfl)|(simp [*,zqm,zql] <;> rfl),by repeat(first|(with_reducible first|exact HB.out|apply zqb|apply zqa|apply zqc|refine zqi ?_ GE206.out)|exact HB.out)⟩

end Go.Proofs.YthhejedfjgikdaaDoor.PRowEntries
