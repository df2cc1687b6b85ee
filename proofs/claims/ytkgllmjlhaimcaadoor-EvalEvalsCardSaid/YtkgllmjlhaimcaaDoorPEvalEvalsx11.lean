-- Written by wip/pp of this repo (over the kit's print, with additions of this session); Lean checks every line.
import Derived.Test.YtkgllmjlhaimcaaDoorPEvalEvalsx8
namespace Go.Proofs.YtkgllmjlhaimcaaDoor.PEvalEvals
open Go.RowKit Go.Proofs.YtkgllmjlhaimcaaDoorW.PrintWords Go.Proofs.YtkgllmjlhaimcaaDoorW.PrintLast Go.Proofs.YtkgllmjlhaimcaaDoorW.PrintMore
attribute [local go_sem] zje zjc zjo zjn zq4 zq3 zjd zjb   -- for this text's walks alone
set_option linter.unusedVariables false
set_option linter.unusedSimpArgs false

/-! ### qw: function 53 -/
def qw.l0:Nat→Bool→List (S23)→Int→Int→Option (Bool × Bool)
 | 0,_,_,_,_=>none
 | k+1,x5,x10,x11,x12=>if x12<x11 then(if 0≤x12 then(if x12<(x10.length:Int) then(if((zqc x10 x12).f0)=1 then(some (false,false)) else (if((zqc x10 x12).f0)=3 then(some (false,false)) else (if x5=true then(qw.l0 k true x10 x11 (wrap64 (x12+1))) else (qw.l0 k (((zqc x10 x12).f0) == 0) x10 x11 (wrap64 (x12+1)))))) else (none)) else (none)) else (some (true,x5))
def qw.f (k:Nat) (a0_0:Int) (a0_1:Int) (a0_2:ByteArray) (a1_0:Int) (a1_1:Int) (a1_2:ByteArray):Option (Bool × Bool):=(some (([(⟨a0_0,a0_1,a0_2⟩:S23),(⟨a1_0,a1_1,a1_2⟩:S23)]:List (S23)):List (S23))).bind fun y197=>(qw.l0 k false y197 (y197.length:Int) 0)
theorem qw.mono_l:∀ k,(∀ y0 y1 y2 y3,LeO (qw.l0 k y0 y1 y2 y3) (qw.l0 (k+1) y0 y1 y2 y3))
 | 0=>fun _ _ _ _ r h=>by simp [qw.l0] at h
 | k+1=>by
  have ih0:=qw.mono_l k
  intro y0 y1 y2 y3
  unfold qw.l0
  repeat' first
  | (with_reducible first|exact ih0 _ _ _ _|exact LeO.refl _|exact LeO.none _|refine LeO.ite ?_ ?_|refine LeO.bind ?_ (fun _=>?_))
  | exact ih0 _ _ _ _
  | exact LeO.none _
  | refine LeO.ite ?_ ?_
  | refine LeO.bind ?_ (fun _=>?_)
theorem qw.mono:∀ a0 a1 a2 a3 a4 a5 k,LeO (qw.f k a0 a1 a2 a3 a4 a5) (qw.f (k+1) a0 a1 a2 a3 a4 a5):=by
 intro a0 a1 a2 a3 a4 a5 k
 have ih0:=qw.mono_l k
 unfold qw.f
 repeat' first
   | (with_reducible first|exact ih0 _ _ _ _|exact LeO.refl _|exact LeO.none _|refine LeO.ite ?_ ?_|refine LeO.bind ?_ (fun _=>?_))
   | exact ih0 _ _ _ _
   | exact LeO.none _
   | refine LeO.ite ?_ ?_
   | refine LeO.bind ?_ (fun _=>?_)
set_option maxHeartbeats 8000000 in
set_option maxRecDepth 100000 in
theorem qw.calls (k:Nat) (a0_0:Int) (a0_1:Int) (a0_2:ByteArray) (a1_0:Int) (a1_1:Int) (a1_2:ByteArray) (r1:Bool) (r2:Bool) (w:World) (h:qw.f k a0_0 a0_1 a0_2 a1_0 a1_1 a1_2=some (r1,r2)) :
  Calls Tryd.prog 53 #[.agg #[.int .i64 a0_0,.int .i64 a0_1,.string a0_2],.agg #[.int .i64 a1_0,.int .i64 a1_1,.string a1_2]] w fun e w'=>e = .returned (.tuple #[.bool r1,.bool r2])∧Below w.heap.size w w':=by
 have hu23:=Tryd.underlying23
 have HB:=zq.mk (Below.refl w.heap.size w)
 have H:((some (([(⟨a0_0,a0_1,a0_2⟩:S23),(⟨a1_0,a1_1,a1_2⟩:S23)]:List (S23)):List (S23))).bind fun y197=>(qw.l0 k false y197 (y197.length:Int) 0))=some (r1,r2):=h
 clear h
 obtain ⟨y197,hy197⟩:∃ y_:List (S23),y_=(([(⟨a0_0,a0_1,a0_2⟩:S23),(⟨a1_0,a1_1,a1_2⟩:S23)]:List (S23))):=⟨_,rfl⟩
 replace H:(qw.l0 k false y197 (y197.length:Int) 0)=some (r1,r2):=by first|(rw [hy197];with_reducible exact H)|(have H2_:=(Option.bind_some _ _).symm.trans H;rw [hy197];with_reducible exact H2_)|(have H2_:=(Option.bind_some _ _).symm.trans H;with_reducible exact H2_)|with_reducible exact H|(rw [hy197];exact H)|exact H
 have Ny197:=zq.mk hy197
 clear hy197
 have H':=zq.mk H
 clear H
 go_enter Tryd.func53,Tryd.ntmps53
 go_wp2_with (first|((with_reducible refine qc (N:=2) rfl ?_);refine qn ?hg (N:=2) ?hd (cs:=#[.int .i64 a0_0,.int .i64 a0_1,.string a0_2]) (t:=23) ?hr ?_;(case hd=>rfl);(case hg=>rfl);(case hr=>first|(go_simp;done)|(go_simp;rfl));intro gb195 hg w3 hbox hb;have BK195:=zq.mk (hbox);have GW195:=zq.mk ((by rw [hg];exact(zw bw):w.heap.size≤gb195));have GE195:=zq.mk ((by rw [hg];exact(zw bw):w.heap.size≤gb195));replace HB:=zq.mk (zc bw hb);clear hb hbox hg)|((with_reducible refine qc (N:=3) rfl ?_);refine qn ?hg (N:=3) ?hd (cs:=#[.int .i64 a1_0,.int .i64 a1_1,.string a1_2]) (t:=23) ?hr ?_;(case hd=>rfl);(case hg=>rfl);(case hr=>first|(go_simp;done)|(go_simp;rfl));intro gb196 hg w4 hbox hb;have BK196:=zq.mk (hbox);have GW196:=zq.mk ((by rw [hg];exact(zw bw):w.heap.size≤gb196));have GE196:=zq.mk ((by rw [hg];exact(zw bw):w.heap.size≤gb196));replace HB:=zq.mk (zc bw hb);have NB195_196:=zq.mk ((by rw [hg];exact Nat.ne_of_lt (qd (g:=gb195) (o:=.cells #[.int .i64 a0_0,.int .i64 a0_1,.string a0_2] 23 (0,0)) (up BK195.out)):gb195≠gb196));have NB196_195:=zq.mk ((by rw [hg];exact Nat.ne_of_gt (qd (g:=gb195) (o:=.cells #[.int .i64 a0_0,.int .i64 a0_1,.string a0_2] 23 (0,0)) (up BK195.out)):gb196≠gb195));replace BK195:=zq.mk (zl (g:=gb195) (o:=.cells #[.int .i64 a0_0,.int .i64 a0_1,.string a0_2] 23 (0,0)) (up BK195.out) hb);clear hb hbox hg;have hnb5:=NB195_196.out;have hnc5:=NB196_195.out;obtain ⟨hcz6_0,hcz6_1,hcz6_2,hfz6_0,hfz6_1,hfz6_2⟩:=zd BK195.out;obtain ⟨hcz7_0,hcz7_1,hcz7_2,hfz7_0,hfz7_1,hfz7_2⟩:=zd BK196.out)|((with_reducible refine qc (N:=10) rfl ?_);refine Kd.R_lit k23 _ 23 ?hg (N:=10) ?hd (xs:=([(⟨a0_0,a0_1,a0_2⟩:S23),(⟨a1_0,a1_1,a1_2⟩:S23)]:List (S23))) (inner := [.int .i64 a0_0,.int .i64 a0_1,.string a0_2,.int .i64 a1_0,.int .i64 a1_1,.string a1_2]) (ok:=fun _=>True) (okp:=fun _=>True) ?hr ?hp (fun _ hk=>hk) trivial (Below.refl _ _) (Nat.le_refl _) (by simp) ?_;(case hd=>rfl);(case hg=>rfl);(case hr=>first|(go_simp;done)|(go_simp;rfl));(case hp=>exact(Reps.c3 (show Kd.M k23 _ _ _ (⟨a0_0,a0_1,a0_2⟩:S23) [.int .i64 a0_0,.int .i64 a0_1,.string a0_2] from (k23_mkM _ _ _ (⟨a0_0,a0_1,a0_2⟩:S23) )) (Reps.c3 (show Kd.M k23 _ _ _ (⟨a1_0,a1_1,a1_2⟩:S23) [.int .i64 a1_0,.int .i64 a1_1,.string a1_2] from (k23_mkM _ _ _ (⟨a1_0,a1_1,a1_2⟩:S23) )) (Reps.none _ _))));intro v198 w8 ho9 hb hg_ hnew_;clear hg_ hnew_;(first|rw [← Ny197.out] at ho9|(simp only [Int.reduceToNat] at ho9;rw [← Ny197.out] at ho9));have HO199:=zq.mk (Kd.zxt (Kd.R_newB (Kd.R_newB ho9 (g:=gb195) (o:=.cells #[.int .i64 a0_0,.int .i64 a0_1,.string a0_2] 23 (0,0)) (up BK195.out)) (g:=gb196) (o:=.cells #[.int .i64 a1_0,.int .i64 a1_1,.string a1_2] 23 (0,0)) (up BK196.out)) (zw bw));replace BK195:=zq.mk (zl (g:=gb195) (o:=.cells #[.int .i64 a0_0,.int .i64 a0_1,.string a0_2] 23 (0,0)) (up BK195.out) hb);replace BK196:=zq.mk (zl (g:=gb196) (o:=.cells #[.int .i64 a1_0,.int .i64 a1_1,.string a1_2] 23 (0,0)) (up BK196.out) hb);replace HB:=zq.mk (zc bw hb);clear hb ho9;obtain ⟨Ao10,co10,eo10⟩:=Kd.zxi HO199.out;subst eo10))
 go_loopg [5,12] k (fun kq v5 v12 w' => ∃ (x5_1:Bool) (x12_1:Int),v5 = .bool x5_1∧v12 = .int .i64 x12_1∧zq (qw.l0 kq x5_1 y197 (y197.length:Int) x12_1=some (r1,r2))∧zq (kq≤k)∧zq (Kd.R k23 23 w' w.heap.size (fun k_=>k_≠gb195∧k_≠gb196) (.slice Ao10 y197.length co10) y197)∧zq (w'.heap[gb195]? = some (.cells #[.int .i64 a0_0,.int .i64 a0_1,.string a0_2] 23 (0,0)))∧zq (w'.heap[gb196]? = some (.cells #[.int .i64 a1_0,.int .i64 a1_1,.string a1_2] 23 (0,0)))∧zq (Below w.heap.size w w'))
 case atStart=>exact⟨(false),(0),vr,vr,H',⟨Nat.le_refl _⟩,⟨by(with_reducible repeat(first|apply Kd.R_alloc|apply Kd.R_drewN|apply Kd.R_drew));exact Kd.zjv HO199.out (fun _ hk=>⟨hk.1.2,hk.2⟩)⟩,⟨by(with_reducible repeat(first|refine zb ?_ _|refine zf ?_|refine zg ?_ _));exact BK195.out⟩,⟨by(with_reducible repeat(first|refine zb ?_ _|refine zf ?_|refine zg ?_ _));exact BK196.out⟩,⟨bw⟩⟩
 case round=>
  clear H'
  (try clear c3);(try clear hcz6_0);(try clear hcz6_1);(try clear hcz6_2);(try clear hcz7_0);(try clear hcz7_1);(try clear hcz7_2);(try clear hfz6_0);(try clear hfz6_1);(try clear hfz6_2);(try clear hfz7_0);(try clear hfz7_1);(try clear hfz7_2)
  (try clear HO_10);(try clear BK195);(try clear BK196)
  obtain ⟨x5_1,x12_1,rfl,rfl,HA,HK1,HO_10,BK195,BK196,HB⟩:=hrel
  cases gk with
  | zero=>exact absurd HA.out (by simp [qw.l0])
  | succ k1=>
   have H:=HA.out
   clear HA
   simp only [qw.l0] at H
   by_cases c11:x12_1<(y197.length:Int)
   ·rw [if_pos c11] at H
    have c11b0:=decide_eq_true c11
    clear c11
    by_cases c12:0≤x12_1
    ·rw [if_pos c12] at H
     have c12b0:=decide_eq_true c12
     clear c12
     by_cases c13:x12_1<(y197.length:Int)
     ·rw [if_pos c13] at H
      have c13b0:=decide_eq_true c13
      clear c13
      by_cases c14:((zqc y197 x12_1).f0)=1
      ·rw [if_pos c14] at H
       have c14b0:(((zqc y197 x12_1).f0) == 1)=true:=beq_iff_eq.mpr c14
       have c14b1:(((zqc y197 x12_1).f0) != 1)=false:=bne_eq_false_iff_eq.mpr c14
       clear c14
       simp only [Option.some.injEq,Prod.mk.injEq] at H
       obtain ⟨rfl,rfl⟩:=H
       have p200:0≤(x12_1:Int):=dt
       have q200:x12_1<(y197.length:Int):=dt
       obtain ⟨ad200,e200,hx200_0,hx200_1,hx200_2⟩:=zxg (Kd.zji HO_10.out).2.2 x12_1 p200 q200
       cases e200
       replace p200:=eq_true p200
       replace q200:=eq_true q200
       go_wp2_with (first|((with_reducible refine qc (N:=7) rfl ?_);refine qn ?hg (N:=7) ?hd (cs:=#[.int .i64 0,.int .i64 0,.string (⟨#[]⟩:ByteArray)]) (t:=23) ?hr ?_;(case hd=>rfl);(case hg=>rfl);(case hr=>first|(go_simp;done)|(go_simp;rfl));intro gb201 hg w15 hbox hb;replace HO_10:=zq.mk (Kd.zja (Kd.zjz (Kd.ru HO_10.out) gb201 (Nat.le_of_eq hg.symm)) hb);have BK201:=zq.mk (hbox);have GW201:=zq.mk ((by rw [hg];exact(zw bw):w.heap.size≤gb201));have GE201:=zq.mk ((by rw [hg];exact(zw bw):w.heap.size≤gb201));replace HB:=zq.mk (zc bw hb);have NB195_201:=zq.mk ((by rw [hg];exact Nat.ne_of_lt (qd (g:=gb195) (o:=.cells #[.int .i64 a0_0,.int .i64 a0_1,.string a0_2] 23 (0,0)) (up BK195.out)):gb195≠gb201));have NB201_195:=zq.mk ((by rw [hg];exact Nat.ne_of_gt (qd (g:=gb195) (o:=.cells #[.int .i64 a0_0,.int .i64 a0_1,.string a0_2] 23 (0,0)) (up BK195.out)):gb201≠gb195));replace BK195:=zq.mk (zl (g:=gb195) (o:=.cells #[.int .i64 a0_0,.int .i64 a0_1,.string a0_2] 23 (0,0)) (up BK195.out) hb);have NB196_201:=zq.mk ((by rw [hg];exact Nat.ne_of_lt (qd (g:=gb196) (o:=.cells #[.int .i64 a1_0,.int .i64 a1_1,.string a1_2] 23 (0,0)) (up BK196.out)):gb196≠gb201));have NB201_196:=zq.mk ((by rw [hg];exact Nat.ne_of_gt (qd (g:=gb196) (o:=.cells #[.int .i64 a1_0,.int .i64 a1_1,.string a1_2] 23 (0,0)) (up BK196.out)):gb201≠gb196));replace BK196:=zq.mk (zl (g:=gb196) (o:=.cells #[.int .i64 a1_0,.int .i64 a1_1,.string a1_2] 23 (0,0)) (up BK196.out) hb);clear hb hbox hg;have hnb16:=NB201_195.out;have hnc16:=NB195_201.out;have hnb17:=NB201_196.out;have hnc17:=NB196_201.out;obtain ⟨hcz18_0,hcz18_1,hcz18_2,hfz18_0,hfz18_1,hfz18_2⟩:=zd BK201.out))
       go_ret2
       exact⟨by first|rfl|(simp [zk,zx] <;> rfl)|(simp [*,zk,zx] <;> rfl),bw⟩
      rw [if_neg c14] at H
      have c14b0:(((zqc y197 x12_1).f0) == 1)=false:=beq_eq_false_iff_ne.mpr c14
      have c14b1:(((zqc y197 x12_1).f0) != 1)=true:=bne_iff_ne.mpr c14
      by_cases c19:((zqc y197 x12_1).f0)=3
      ·rw [if_pos c19] at H
       have c19b0:(((zqc y197 x12_1).f0) == 3)=true:=beq_iff_eq.mpr c19
       have c19b1:(((zqc y197 x12_1).f0) != 3)=false:=bne_eq_false_iff_eq.mpr c19
       clear c19
       simp only [Option.some.injEq,Prod.mk.injEq] at H
       obtain ⟨rfl,rfl⟩:=H
       have p200:0≤(x12_1:Int):=dt
       have q200:x12_1<(y197.length:Int):=dt
       obtain ⟨ad200,e200,hx200_0,hx200_1,hx200_2⟩:=zxg (Kd.zji HO_10.out).2.2 x12_1 p200 q200
       cases e200
       replace p200:=eq_true p200
       replace q200:=eq_true q200
       go_wp2_with (first|((with_reducible refine qc (N:=7) rfl ?_);refine qn ?hg (N:=7) ?hd (cs:=#[.int .i64 0,.int .i64 0,.string (⟨#[]⟩:ByteArray)]) (t:=23) ?hr ?_;(case hd=>rfl);(case hg=>rfl);(case hr=>first|(go_simp;done)|(go_simp;rfl));intro gb201 hg w20 hbox hb;replace HO_10:=zq.mk (Kd.zja (Kd.zjz (Kd.ru HO_10.out) gb201 (Nat.le_of_eq hg.symm)) hb);have BK201:=zq.mk (hbox);have GW201:=zq.mk ((by rw [hg];exact(zw bw):w.heap.size≤gb201));have GE201:=zq.mk ((by rw [hg];exact(zw bw):w.heap.size≤gb201));replace HB:=zq.mk (zc bw hb);have NB195_201:=zq.mk ((by rw [hg];exact Nat.ne_of_lt (qd (g:=gb195) (o:=.cells #[.int .i64 a0_0,.int .i64 a0_1,.string a0_2] 23 (0,0)) (up BK195.out)):gb195≠gb201));have NB201_195:=zq.mk ((by rw [hg];exact Nat.ne_of_gt (qd (g:=gb195) (o:=.cells #[.int .i64 a0_0,.int .i64 a0_1,.string a0_2] 23 (0,0)) (up BK195.out)):gb201≠gb195));replace BK195:=zq.mk (zl (g:=gb195) (o:=.cells #[.int .i64 a0_0,.int .i64 a0_1,.string a0_2] 23 (0,0)) (up BK195.out) hb);have NB196_201:=zq.mk ((by rw [hg];exact Nat.ne_of_lt (qd (g:=gb196) (o:=.cells #[.int .i64 a1_0,.int .i64 a1_1,.string a1_2] 23 (0,0)) (up BK196.out)):gb196≠gb201));have NB201_196:=zq.mk ((by rw [hg];exact Nat.ne_of_gt (qd (g:=gb196) (o:=.cells #[.int .i64 a1_0,.int .i64 a1_1,.string a1_2] 23 (0,0)) (up BK196.out)):gb201≠gb196));replace BK196:=zq.mk (zl (g:=gb196) (o:=.cells #[.int .i64 a1_0,.int .i64 a1_1,.string a1_2] 23 (0,0)) (up BK196.out) hb);clear hb hbox hg;have hnb21:=NB201_195.out;have hnc21:=NB195_201.out;have hnb22:=NB201_196.out;have hnc22:=NB196_201.out;obtain ⟨hcz23_0,hcz23_1,hcz23_2,hfz23_0,hfz23_1,hfz23_2⟩:=zd BK201.out))
       go_ret2
       exact⟨by first|rfl|(simp [zk,zx] <;> rfl)|(simp [*,zk,zx] <;> rfl),bw⟩
      rw [if_neg c19] at H
      have c19b0:(((zqc y197 x12_1).f0) == 3)=false:=beq_eq_false_iff_ne.mpr c19
      have c19b1:(((zqc y197 x12_1).f0) != 3)=true:=bne_iff_ne.mpr c19
      by_cases c24:x5_1=true
      ·subst c24
       rw [if_pos rfl] at H
       have H':=zq.mk H
       clear H
       have p200:0≤(x12_1:Int):=dt
       have q200:x12_1<(y197.length:Int):=dt
       obtain ⟨ad200,e200,hx200_0,hx200_1,hx200_2⟩:=zxg (Kd.zji HO_10.out).2.2 x12_1 p200 q200
       cases e200
       replace p200:=eq_true p200
       replace q200:=eq_true q200
       go_wp2_with (first|((with_reducible refine qc (N:=7) rfl ?_);refine qn ?hg (N:=7) ?hd (cs:=#[.int .i64 0,.int .i64 0,.string (⟨#[]⟩:ByteArray)]) (t:=23) ?hr ?_;(case hd=>rfl);(case hg=>rfl);(case hr=>first|(go_simp;done)|(go_simp;rfl));intro gb201 hg w25 hbox hb;replace HO_10:=zq.mk (Kd.zja (Kd.zjz (Kd.ru HO_10.out) gb201 (Nat.le_of_eq hg.symm)) hb);have BK201:=zq.mk (hbox);have GW201:=zq.mk ((by rw [hg];exact(zw bw):w.heap.size≤gb201));have GE201:=zq.mk ((by rw [hg];exact(zw bw):w.heap.size≤gb201));replace HB:=zq.mk (zc bw hb);have NB195_201:=zq.mk ((by rw [hg];exact Nat.ne_of_lt (qd (g:=gb195) (o:=.cells #[.int .i64 a0_0,.int .i64 a0_1,.string a0_2] 23 (0,0)) (up BK195.out)):gb195≠gb201));have NB201_195:=zq.mk ((by rw [hg];exact Nat.ne_of_gt (qd (g:=gb195) (o:=.cells #[.int .i64 a0_0,.int .i64 a0_1,.string a0_2] 23 (0,0)) (up BK195.out)):gb201≠gb195));replace BK195:=zq.mk (zl (g:=gb195) (o:=.cells #[.int .i64 a0_0,.int .i64 a0_1,.string a0_2] 23 (0,0)) (up BK195.out) hb);have NB196_201:=zq.mk ((by rw [hg];exact Nat.ne_of_lt (qd (g:=gb196) (o:=.cells #[.int .i64 a1_0,.int .i64 a1_1,.string a1_2] 23 (0,0)) (up BK196.out)):gb196≠gb201));have NB201_196:=zq.mk ((by rw [hg];exact Nat.ne_of_gt (qd (g:=gb196) (o:=.cells #[.int .i64 a1_0,.int .i64 a1_1,.string a1_2] 23 (0,0)) (up BK196.out)):gb201≠gb196));replace BK196:=zq.mk (zl (g:=gb196) (o:=.cells #[.int .i64 a1_0,.int .i64 a1_1,.string a1_2] 23 (0,0)) (up BK196.out) hb);clear hb hbox hg;have hnb26:=NB201_195.out;have hnc26:=NB195_201.out;have hnb27:=NB201_196.out;have hnc27:=NB196_201.out;obtain ⟨hcz28_0,hcz28_1,hcz28_2,hfz28_0,hfz28_1,hfz28_2⟩:=zd BK201.out))
       go_roundg k1
       case measure=>have:=HK1.out;omega
       case rel=>exact⟨(true),(wrap64 (x12_1+1)),vr,vr,H',⟨by have:=HK1.out;omega⟩,⟨by(with_reducible repeat(first|apply Kd.R_alloc|apply Kd.R_drewN|apply Kd.R_drew));exact Kd.zjv (Kd.zxv (p:=⟨gb201,2,none⟩) (Kd.zxv (p:=⟨gb201,1,none⟩) (Kd.zxv (p:=⟨gb201,0,none⟩) (Kd.zjv HO_10.out (fun k_ hk=>(⟨hk,hk.2⟩:_∧k_≠gb201))) (fun _ hk=>hk.2) (.int .i64 ((zqc y197 x12_1).f0))) (fun _ hk=>hk.2) (.int .i64 ((zqc y197 x12_1).f1))) (fun _ hk=>hk.2) (.string ((zqc y197 x12_1).f2))) (fun _ hk=>⟨hk.1.1.1,hk.1.1.2⟩)⟩,⟨by(with_reducible repeat(first|refine zb ?_ _|refine zf ?_|refine zg ?_ _));refine zqv ?_ NB195_201.out _;(with_reducible repeat(first|refine zb ?_ _|refine zf ?_|refine zg ?_ _));refine zqv ?_ NB195_201.out _;(with_reducible repeat(first|refine zb ?_ _|refine zf ?_|refine zg ?_ _));refine zqv ?_ NB195_201.out _;(with_reducible repeat(first|refine zb ?_ _|refine zf ?_|refine zg ?_ _));exact BK195.out⟩,⟨by(with_reducible repeat(first|refine zb ?_ _|refine zf ?_|refine zg ?_ _));refine zqv ?_ NB196_201.out _;(with_reducible repeat(first|refine zb ?_ _|refine zf ?_|refine zg ?_ _));refine zqv ?_ NB196_201.out _;(with_reducible repeat(first|refine zb ?_ _|refine zf ?_|refine zg ?_ _));refine zqv ?_ NB196_201.out _;(with_reducible repeat(first|refine zb ?_ _|refine zf ?_|refine zg ?_ _));exact BK196.out⟩,⟨bw⟩⟩
      replace c24:=Bool.eq_false_iff.mpr c24
      subst c24
      rw [if_neg (show ¬ (false=true) by decide)] at H
      have H':=zq.mk H
      clear H
      have p200:0≤(x12_1:Int):=dt
      have q200:x12_1<(y197.length:Int):=dt
      obtain ⟨ad200,e200,hx200_0,hx200_1,hx200_2⟩:=zxg (Kd.zji HO_10.out).2.2 x12_1 p200 q200
      cases e200
      replace p200:=eq_true p200
      replace q200:=eq_true q200
      go_wp2_with (first|((with_reducible refine qc (N:=7) rfl ?_);refine qn ?hg (N:=7) ?hd (cs:=#[.int .i64 0,.int .i64 0,.string (⟨#[]⟩:ByteArray)]) (t:=23) ?hr ?_;(case hd=>rfl);(case hg=>rfl);(case hr=>first|(go_simp;done)|(go_simp;rfl));intro gb201 hg w29 hbox hb;replace HO_10:=zq.mk (Kd.zja (Kd.zjz (Kd.ru HO_10.out) gb201 (Nat.le_of_eq hg.symm)) hb);have BK201:=zq.mk (hbox);have GW201:=zq.mk ((by rw [hg];exact(zw bw):w.heap.size≤gb201));have GE201:=zq.mk ((by rw [hg];exact(zw bw):w.heap.size≤gb201));replace HB:=zq.mk (zc bw hb);have NB195_201:=zq.mk ((by rw [hg];exact Nat.ne_of_lt (qd (g:=gb195) (o:=.cells #[.int .i64 a0_0,.int .i64 a0_1,.string a0_2] 23 (0,0)) (up BK195.out)):gb195≠gb201));have NB201_195:=zq.mk ((by rw [hg];exact Nat.ne_of_gt (qd (g:=gb195) (o:=.cells #[.int .i64 a0_0,.int .i64 a0_1,.string a0_2] 23 (0,0)) (up BK195.out)):gb201≠gb195));replace BK195:=zq.mk (zl (g:=gb195) (o:=.cells #[.int .i64 a0_0,.int .i64 a0_1,.string a0_2] 23 (0,0)) (up BK195.out) hb);have NB196_201:=zq.mk ((by rw [hg];exact Nat.ne_of_lt (qd (g:=gb196) (o:=.cells #[.int .i64 a1_0,.int .i64 a1_1,.string a1_2] 23 (0,0)) (up BK196.out)):gb196≠gb201));have NB201_196:=zq.mk ((by rw [hg];exact Nat.ne_of_gt (qd (g:=gb196) (o:=.cells #[.int .i64 a1_0,.int .i64 a1_1,.string a1_2] 23 (0,0)) (up BK196.out)):gb201≠gb196));replace BK196:=zq.mk (zl (g:=gb196) (o:=.cells #[.int .i64 a1_0,.int .i64 a1_1,.string a1_2] 23 (0,0)) (up BK196.out) hb);clear hb hbox hg;have hnb30:=NB201_195.out;have hnc30:=NB195_201.out;have hnb31:=NB201_196.out;have hnc31:=NB196_201.out;obtain ⟨hcz32_0,hcz32_1,hcz32_2,hfz32_0,hfz32_1,hfz32_2⟩:=zd BK201.out))
      go_roundg k1
      case measure=>have:=HK1.out;omega
      case rel=>exact⟨((((zqc y197 x12_1).f0) == 0)),(wrap64 (x12_1+1)),vr,vr,H',⟨by have:=HK1.out;omega⟩,⟨by(with_reducible repeat(first|apply Kd.R_alloc|apply Kd.R_drewN|apply Kd.R_drew));exact Kd.zjv (Kd.zxv (p:=⟨gb201,2,none⟩) (Kd.zxv (p:=⟨gb201,1,none⟩) (Kd.zxv (p:=⟨gb201,0,none⟩) (Kd.zjv HO_10.out (fun k_ hk=>(⟨hk,hk.2⟩:_∧k_≠gb201))) (fun _ hk=>hk.2) (.int .i64 ((zqc y197 x12_1).f0))) (fun _ hk=>hk.2) (.int .i64 ((zqc y197 x12_1).f1))) (fun _ hk=>hk.2) (.string ((zqc y197 x12_1).f2))) (fun _ hk=>⟨hk.1.1.1,hk.1.1.2⟩)⟩,⟨by(with_reducible repeat(first|refine zb ?_ _|refine zf ?_|refine zg ?_ _));refine zqv ?_ NB195_201.out _;(with_reducible repeat(first|refine zb ?_ _|refine zf ?_|refine zg ?_ _));refine zqv ?_ NB195_201.out _;(with_reducible repeat(first|refine zb ?_ _|refine zf ?_|refine zg ?_ _));refine zqv ?_ NB195_201.out _;(with_reducible repeat(first|refine zb ?_ _|refine zf ?_|refine zg ?_ _));exact BK195.out⟩,⟨by(with_reducible repeat(first|refine zb ?_ _|refine zf ?_|refine zg ?_ _));refine zqv ?_ NB196_201.out _;(with_reducible repeat(first|refine zb ?_ _|refine zf ?_|refine zg ?_ _));refine zqv ?_ NB196_201.out _;(with_reducible repeat(first|refine zb ?_ _|refine zf ?_|refine zg ?_ _));refine zqv ?_ NB196_201.out _;(with_reducible repeat(first|refine zb ?_ _|refine zf ?_|refine zg ?_ _));exact BK196.out⟩,⟨bw⟩⟩
     rw [if_neg c13] at H
     exact absurd H (by simp)
    rw [if_neg c12] at H
    exact absurd H (by simp)
   rw [if_neg c11] at H
   have c11b0:=decide_eq_false c11
   clear c11
   simp only [Option.some.injEq,Prod.mk.injEq] at H
   obtain ⟨rfl,rfl⟩:=H
   go_wp2
   go_ret2
   exact⟨by first|rfl|(simp [zk,zx] <;> rfl)|(simp [*,zk,zx] <;> rfl),bw⟩

/-! ### zqb: function 54 -/
def zqb.f (a0:Int) (a1:Int):Option (Int × Int × ByteArray × Int):=if a1=0 then(some (2,a0,(⟨#[]⟩:ByteArray),0)) else (some (0,0,(⟨#[]⟩:ByteArray),a1))
set_option maxHeartbeats 8000000 in
set_option maxRecDepth 100000 in
theorem zqb.calls (a0:Int) (a1:Int) (r1:Int) (r2:Int) (r3:ByteArray) (r4:Int) (w:World) (h:zqb.f a0 a1=some (r1,r2,r3,r4)) :
  Calls Tryd.prog 54 #[.int .i64 a0,.int .i64 a1] w fun e w'=>e = .returned (.tuple #[.agg #[.int .i64 r1,.int .i64 r2,.string r3],.int .i64 r4])∧Below w.heap.size w w':=by
 have hu23:=Tryd.underlying23
 have HB:=zq.mk (Below.refl w.heap.size w)
 have H:(if a1=0 then(some (2,a0,(⟨#[]⟩:ByteArray),0)) else (some (0,0,(⟨#[]⟩:ByteArray),a1)))=some (r1,r2,r3,r4):=h
 clear h
 by_cases c3:a1=0
 ·rw [if_pos c3] at H
  have c3b0:(a1 == 0)=true:=beq_iff_eq.mpr c3
  have c3b1:(a1 != 0)=false:=bne_eq_false_iff_eq.mpr c3
  clear c3
  simp only [Option.some.injEq,Prod.mk.injEq] at H
  obtain ⟨rfl,rfl,rfl,rfl⟩:=H
  go_enter Tryd.func54,Tryd.ntmps54
  go_wp2_with (first|((with_reducible refine qc (N:=4) rfl ?_);refine qn ?hg (N:=4) ?hd (cs:=#[.int .i64 0,.int .i64 0,.string (⟨#[]⟩:ByteArray)]) (t:=23) ?hr ?_;(case hd=>rfl);(case hg=>rfl);(case hr=>first|(go_simp;done)|(go_simp;rfl));intro gb202 hg w4 hbox hb;have BK202:=zq.mk (hbox);have GW202:=zq.mk ((by rw [hg];exact(zw bw):w.heap.size≤gb202));have GE202:=zq.mk ((by rw [hg];exact(zw bw):w.heap.size≤gb202));replace HB:=zq.mk (zc bw hb);clear hb hbox hg;obtain ⟨hcz5_0,hcz5_1,hcz5_2,hfz5_0,hfz5_1,hfz5_2⟩:=zd BK202.out))
  refine bodyPost_ret (zqu rfl _ _ gb202 23 #[.int .i64 2,.int .i64 a0,.string (⟨#[]⟩:ByteArray)] (0,0) _ rfl (by(with_reducible repeat(first|refine zb ?_ _|refine zf ?_|refine zg ?_ _));refine zr (cs:=#[.int .i64 2,.int .i64 a0,.string (⟨#[]⟩:ByteArray)]) ?_ 2 _ rfl;(with_reducible repeat(first|refine zb ?_ _|refine zf ?_|refine zg ?_ _));refine zr (cs:=#[.int .i64 2,.int .i64 0,.string (⟨#[]⟩:ByteArray)]) ?_ 1 _ rfl;(with_reducible repeat(first|refine zb ?_ _|refine zf ?_|refine zg ?_ _));refine zr (cs:=#[.int .i64 0,.int .i64 0,.string (⟨#[]⟩:ByteArray)]) ?_ 0 _ rfl;(with_reducible repeat(first|refine zb ?_ _|refine zf ?_|refine zg ?_ _));exact BK202.out) Tryd.underlying23 rfl (by kernel_rfl)) rfl ?_
  exact⟨by first|rfl|(simp [zk,zx] <;> rfl)|(simp [*,zk,zx] <;> rfl),bw⟩
 rw [if_neg c3] at H
 have c3b0:(a1 == 0)=false:=beq_eq_false_iff_ne.mpr c3
 have c3b1:(a1 != 0)=true:=bne_iff_ne.mpr c3
 simp only [Option.some.injEq,Prod.mk.injEq] at H
 obtain ⟨rfl,rfl,rfl,rfl⟩:=H
 go_enter Tryd.func54,Tryd.ntmps54
 go_wp2_with (first|((with_reducible refine qc (N:=4) rfl ?_);refine qn ?hg (N:=4) ?hd (cs:=#[.int .i64 0,.int .i64 0,.string (⟨#[]⟩:ByteArray)]) (t:=23) ?hr ?_;(case hd=>rfl);(case hg=>rfl);(case hr=>first|(go_simp;done)|(go_simp;rfl));intro gb202 hg w6 hbox hb;have BK202:=zq.mk (hbox);have GW202:=zq.mk ((by rw [hg];exact(zw bw):w.heap.size≤gb202));have GE202:=zq.mk ((by rw [hg];exact(zw bw):w.heap.size≤gb202));replace HB:=zq.mk (zc bw hb);clear hb hbox hg;obtain ⟨hcz7_0,hcz7_1,hcz7_2,hfz7_0,hfz7_1,hfz7_2⟩:=zd BK202.out))
 refine bodyPost_ret (zqu rfl _ _ gb202 23 #[.int .i64 0,.int .i64 0,.string (⟨#[]⟩:ByteArray)] (0,0) _ rfl (by(with_reducible repeat(first|refine zb ?_ _|refine zf ?_|refine zg ?_ _));refine zr (cs:=#[.int .i64 0,.int .i64 0,.string (⟨#[]⟩:ByteArray)]) ?_ 2 _ rfl;(with_reducible repeat(first|refine zb ?_ _|refine zf ?_|refine zg ?_ _));refine zr (cs:=#[.int .i64 0,.int .i64 0,.string (⟨#[]⟩:ByteArray)]) ?_ 1 _ rfl;(with_reducible repeat(first|refine zb ?_ _|refine zf ?_|refine zg ?_ _));refine zr (cs:=#[.int .i64 0,.int .i64 0,.string (⟨#[]⟩:ByteArray)]) ?_ 0 _ rfl;(with_reducible repeat(first|refine zb ?_ _|refine zf ?_|refine zg ?_ _));exact BK202.out) Tryd.underlying23 rfl (by kernel_rfl)) rfl ?_
 exact⟨by first|rfl|(simp [zk,zx] <;> rfl)|(simp [*,zk,zx] <;> rfl),bw⟩

/-! ### za: function 73 -/
def za.f (a0:Int) (a1:Bool):Option (Int × Int):=if a1=true then(if a0 > 9223372036854775808 then(some (0,10)) else (some (wrap64 (IntKind.u64.wrap (-a0)),0))) else (if a0 ≥ 9223372036854775808 then(some (0,10)) else (some (wrap64 (a0),0)))
set_option maxHeartbeats 8000000 in
set_option maxRecDepth 100000 in
theorem za.calls (a0:Int) (a1:Bool) (r1:Int) (r2:Int) (w:World) (h:za.f a0 a1=some (r1,r2)) :
  Calls Tryd.prog 73 #[.int .u64 a0,.bool a1] w fun e w'=>e = .returned (.tuple #[.int .i64 r1,.int .i64 r2])∧zu w w':=by
 have H:(if a1=true then(if a0 > 9223372036854775808 then(some (0,10)) else (some (wrap64 (IntKind.u64.wrap (-a0)),0))) else (if a0 ≥ 9223372036854775808 then(some (0,10)) else (some (wrap64 (a0),0))))=some (r1,r2):=h
 clear h
 by_cases c3:a1=true
 ·subst c3
  rw [if_pos rfl] at H
  by_cases c4:a0 > 9223372036854775808
  ·rw [if_pos c4] at H
   have c4b0:=decide_eq_true c4
   clear c4
   simp only [Option.some.injEq,Prod.mk.injEq] at H
   obtain ⟨rfl,rfl⟩:=H
   go_enter Tryd.func73,Tryd.ntmps73
   go_wp2
   go_ret2
   exact⟨by first|rfl|(simp;done)|(simp [*];done),by repeat(first|exact zu.refl _|apply zu.step)⟩
  rw [if_neg c4] at H
  have c4b0:=decide_eq_false c4
  clear c4
  simp only [Option.some.injEq,Prod.mk.injEq] at H
  obtain ⟨rfl,rfl⟩:=H
  go_enter Tryd.func73,Tryd.ntmps73
  go_wp2
  go_ret2
  exact⟨by first|rfl|(simp;done)|(simp [*];done),by repeat(first|exact zu.refl _|apply zu.step)⟩
 replace c3:=Bool.eq_false_iff.mpr c3
 subst c3
 rw [if_neg (show ¬ (false=true) by decide)] at H
 by_cases c5:a0 ≥ 9223372036854775808
 ·rw [if_pos c5] at H
  have c5b0:=decide_eq_true c5
  clear c5
  simp only [Option.some.injEq,Prod.mk.injEq] at H
  obtain ⟨rfl,rfl⟩:=H
  go_enter Tryd.func73,Tryd.ntmps73
  go_wp2
  go_ret2
  exact⟨by first|rfl|(simp;done)|(simp [*];done),by repeat(first|exact zu.refl _|apply zu.step)⟩
 rw [if_neg c5] at H
 have c5b0:=decide_eq_false c5
 clear c5
 simp only [Option.some.injEq,Prod.mk.injEq] at H
 obtain ⟨rfl,rfl⟩:=H
 go_enter Tryd.func73,Tryd.ntmps73
 go_wp2
 go_ret2
 exact⟨by first|rfl|(simp;done)|(simp [*];done),by repeat(first|exact zu.refl _|apply zu.step)⟩

/-! ### zi: function 74 -/
def zi.f (a0:Int):Option (Int):=if a0<0 then(some (IntKind.u64.wrap (-(IntKind.u64.wrap (a0))))) else (some (IntKind.u64.wrap (a0)))
set_option maxHeartbeats 8000000 in
set_option maxRecDepth 100000 in
theorem zi.calls (a0:Int) (r:Int) (w:World) (h:zi.f a0=some r) :
  Calls Tryd.prog 74 #[.int .i64 a0] w fun e w'=>e = .returned (.int .u64 r)∧zu w w':=by
 have H:(if a0<0 then(some (IntKind.u64.wrap (-(IntKind.u64.wrap (a0))))) else (some (IntKind.u64.wrap (a0))))=some r:=h
 clear h
 by_cases c2:a0<0
 ·rw [if_pos c2] at H
  have c2b0:=decide_eq_true c2
  clear c2
  obtain rfl:=Option.some.inj H
  go_enter Tryd.func74,Tryd.ntmps74
  go_wp2
  go_ret
  exact⟨by first|rfl|(simp;done)|(simp [*];done),by repeat(first|exact zu.refl _|apply zu.step)⟩
 rw [if_neg c2] at H
 have c2b0:=decide_eq_false c2
 clear c2
 obtain rfl:=Option.some.inj H
 go_enter Tryd.func74,Tryd.ntmps74
 go_wp2
 go_ret
 exact⟨by first|rfl|(simp;done)|(simp [*];done),by repeat(first|exact zu.refl _|apply zu.step)⟩

/-! ### zq9: function 55 -/
def zq9.f (a0:Int):Option (Int × Int):=(zi.f a0).bind fun t203=>((za.f t203 (decide (a0 > 0))).bind fun bt204=>(some (bt204.1,bt204.2)))
set_option maxHeartbeats 8000000 in
set_option maxRecDepth 100000 in
theorem zq9.calls (a0:Int) (r1:Int) (r2:Int) (w:World) (h:zq9.f a0=some (r1,r2)) :
  Calls Tryd.prog 55 #[.int .i64 a0] w fun e w'=>e = .returned (.tuple #[.int .i64 r1,.int .i64 r2])∧zu w w':=by
 have H:((zi.f a0).bind fun t203=>((za.f t203 (decide (a0 > 0))).bind fun bt204=>(some (bt204.1,bt204.2))))=some (r1,r2):=h
 clear h
 replace H:=Option.bind_eq_some_iff.mp H
 obtain ⟨t203,A20,H⟩:=H
 replace H:((za.f t203 (decide (a0 > 0))).bind fun bt204=>(some (bt204.1,bt204.2)))=some (r1,r2):=H
 have A2:=zq.mk A20
 clear A20
 replace H:=Option.bind_eq_some_iff.mp H
 obtain ⟨⟨t204,t205⟩,A30,H⟩:=H
 replace H:(some (t204,t205))=some (r1,r2):=H
 have A3:=zq.mk A30
 clear A30
 simp only [Option.some.injEq,Prod.mk.injEq] at H
 obtain ⟨rfl,rfl⟩:=H
 go_enter Tryd.func55,Tryd.ntmps55
 go_wp2_with (first|((with_reducible refine zo (f:=74) rfl ?_);refine qo (some 5) rfl rfl Tryd.func74 (by kernel_rfl) rfl #[.int .i64 a0] rfl gs ?_;(with_reducible refine(zi.calls a0 t203 _ A2.out).mono ?_);rintro e w' ⟨rfl,⟨nd,rfl⟩⟩;refine⟨_,rfl,?_⟩)|((with_reducible refine zo (f:=73) rfl ?_);refine qo (some 8) rfl rfl Tryd.func73 (by kernel_rfl) rfl #[.int .u64 t203,.bool (decide (a0 > 0))] rfl gs ?_;(with_reducible refine(za.calls t203 (decide (a0 > 0)) t204 t205 _ A3.out).mono ?_);rintro e w' ⟨rfl,⟨nd,rfl⟩⟩;refine⟨_,rfl,?_⟩))
 go_ret2
 exact⟨by first|rfl|(simp;done)|(simp [*];done),by repeat(first|exact zu.refl _|apply zu.step)⟩

/-! ### qz: function 108 -/
mutual
def qz.l0:Nat→ByteArray→ByteArray→Int→Option (Int)
 | 0,_,_,_=>none
 | k+1,x0,x1,x5=>if x5<(x0.size:Int) then(qz.j1 k x0 x1 x5 (decide (x5<(x1.size:Int)))) else (qz.j1 k x0 x1 x5 false)
def qz.j1:Nat→ByteArray→ByteArray→Int→Bool→Option (Int)
 | 0,_,_,_,_=>none
 | k+1,x0,x1,x5,x15=>if x15=true then(if 0≤x5 then(if x5<(x0.size:Int) then(if x5<(x1.size:Int) then(if(bt x0 x5)<(bt x1 x5) then(some (-1)) else (if(bt x0 x5) > (bt x1 x5) then(some 1) else (qz.l0 k x0 x1 (wrap64 (x5+1))))) else (none)) else (none)) else (none)) else (if(x0.size:Int)<(x1.size:Int) then(some (-1)) else (if(x0.size:Int) > (x1.size:Int) then(some 1) else (some 0)))
end
def qz.f (k:Nat) (a0:ByteArray) (a1:ByteArray):Option (Int):=qz.l0 k a0 a1 0
theorem qz.mono_l:∀ k,(∀ y0 y1 y2,LeO (qz.l0 k y0 y1 y2) (qz.l0 (k+1) y0 y1 y2))∧(∀ y0 y1 y2 y3,LeO (qz.j1 k y0 y1 y2 y3) (qz.j1 (k+1) y0 y1 y2 y3))
 | 0=>⟨fun _ _ _ r h=>by simp [qz.l0] at h,fun _ _ _ _ r h=>by simp [qz.j1] at h⟩
 | k+1=>by
  obtain ⟨ih0,ih1⟩:=qz.mono_l k
  refine⟨?_,?_⟩
  ·intro y0 y1 y2
   unfold qz.l0
   repeat' first
   | (with_reducible first|exact ih0 _ _ _|exact ih1 _ _ _ _|exact LeO.refl _|exact LeO.none _|refine LeO.ite ?_ ?_|refine LeO.bind ?_ (fun _=>?_))
   | exact ih0 _ _ _
   | exact ih1 _ _ _ _
   | exact LeO.none _
   | refine LeO.ite ?_ ?_
   | refine LeO.bind ?_ (fun _=>?_)
  intro y0 y1 y2 y3
  unfold qz.j1
  repeat' first
  | (with_reducible first|exact ih0 _ _ _|exact ih1 _ _ _ _|exact LeO.refl _|exact LeO.none _|refine LeO.ite ?_ ?_|refine LeO.bind ?_ (fun _=>?_))
  | exact ih0 _ _ _
  | exact ih1 _ _ _ _
  | exact LeO.none _
  | refine LeO.ite ?_ ?_
  | refine LeO.bind ?_ (fun _=>?_)
theorem qz.mono:∀ a0 a1 k,LeO (qz.f k a0 a1) (qz.f (k+1) a0 a1):=by
 intro a0 a1 k
 obtain ⟨ih0,ih1⟩:=qz.mono_l k
 unfold qz.f
 repeat' first
   | (with_reducible first|exact ih0 _ _ _|exact ih1 _ _ _ _|exact LeO.refl _|exact LeO.none _|refine LeO.ite ?_ ?_|refine LeO.bind ?_ (fun _=>?_))
   | exact ih0 _ _ _
   | exact ih1 _ _ _ _
   | exact LeO.none _
   | refine LeO.ite ?_ ?_
   | refine LeO.bind ?_ (fun _=>?_)
set_option maxHeartbeats 8000000 in
set_option maxRecDepth 100000 in
theorem qz.calls (k:Nat) (a0:ByteArray) (a1:ByteArray) (r:Int) (w:World) (h:qz.f k a0 a1=some r) :
  Calls Tryd.prog 108 #[.string a0,.string a1] w fun e w'=>e = .returned (.int .i64 r)∧zu w w':=by
 have H:(qz.l0 k a0 a1 0)=some r:=h
 clear h
 have H':=zq.mk H
 clear H
 go_enter Tryd.func108,Tryd.ntmps108
 go_wp2
 repeat(go_quiet (fail);try go_wp2)
 go_loopg [5] k (fun kq v5 w' => ∃ (x5_1:Int),v5 = .int .i64 x5_1∧zq (qz.l0 kq a0 a1 x5_1=some r)∧zq (kq≤k)∧zu w w')
 case atStart=>exact⟨(0),vr,H',⟨Nat.le_refl _⟩,by repeat(first|exact zu.refl _|apply zu.step)⟩
 case round=>
  clear H'
  obtain ⟨x5_1,rfl,HA,HK1,⟨m1,rfl⟩⟩:=hrel
  cases gk with
  | zero=>exact absurd HA.out (by simp [qz.l0])
  | succ k1=>
   have H:=HA.out
   clear HA
   simp only [qz.l0] at H
   have HC3:=zq.mk H
   clear H
   go_upto_region 2 with (fail)
   repeat(go_quiet (fail);go_upto_region 2 with (fail))
   go_cut [15] (fun v15 wc => ∃ (kq:Nat) (x15_2:Bool),v15 = .bool x15_2∧zq (qz.j1 kq a0 a1 x5_1 x15_2=some r)∧zq (kq≤k1)∧zu w wc)
   case first=>
    have H:=HC3.out
    clear HC3
    by_cases c4:x5_1<(a0.size:Int)
    ·rw [if_pos c4] at H
     have c4b0:=decide_eq_true c4
     clear c4
     (first|rw [c4b0]|(simp only [zqq,zqr];rw [c4b0])|skip)
     have H':=zq.mk H
     clear H
     go_wp2
     repeat(go_quiet (fail);try go_wp2)
     go_meet
     case rel=>exact⟨_,(decide (x5_1<(a1.size:Int))),vr,H',⟨by have:=HK1.out;first|omega|exact Nat.le_refl _⟩,by repeat(first|exact zu.refl _|apply zu.step)⟩
    rw [if_neg c4] at H
    have c4b0:=decide_eq_false c4
    clear c4
    (first|rw [c4b0]|(simp only [zqq,zqr];rw [c4b0])|skip)
    have H':=zq.mk H
    clear H
    go_wp2
    repeat(go_quiet (fail);try go_wp2)
    go_meet
    case rel=>exact⟨_,(false),vr,H',⟨by have:=HK1.out;first|omega|exact Nat.le_refl _⟩,by repeat(first|exact zu.refl _|apply zu.step)⟩
   case rest=>
    clear HC3
    obtain ⟨kq,x15_2,rfl,HA,HJ2,⟨mc2,rfl⟩⟩:=hcut
    cases kq with
    | zero=>exact absurd HA.out (by simp [qz.j1])
    | succ kj2=>
     have H:=HA.out
     clear HA
     simp only [qz.j1] at H
     by_cases c5:x15_2=true
     ·subst c5
      rw [if_pos rfl] at H
      by_cases c6:0≤x5_1
      ·rw [if_pos c6] at H
       have c6b0:=decide_eq_true c6
       clear c6
       by_cases c7:x5_1<(a0.size:Int)
       ·rw [if_pos c7] at H
        have c7b0:=decide_eq_true c7
        clear c7
        by_cases c9:x5_1<(a1.size:Int)
        ·rw [if_pos c9] at H
         have c9b0:=decide_eq_true c9
         clear c9
         by_cases c11:(bt a0 x5_1)<(bt a1 x5_1)
         ·rw [if_pos c11] at H
          have c11b0:=decide_eq_true c11
          clear c11
          obtain rfl:=Option.some.inj H
          have p8:0≤(x5_1:Int):=dt
          have q8:x5_1<(a0.size:Int):=dt
          have hx8:=zj1 a0 x5_1
          replace p8:=eq_true p8
          replace q8:=eq_true q8
          have p10:0≤(x5_1:Int):=dt
          have q10:x5_1<(a1.size:Int):=dt
          have hx10:=zj1 a1 x5_1
          replace p10:=eq_true p10
          replace q10:=eq_true q10
          go_wp2
          repeat(go_quiet (fail);try go_wp2)
          go_ret
          exact⟨by first|rfl|(simp;done)|(simp [*];done),by repeat(first|exact zu.refl _|apply zu.step)⟩
         rw [if_neg c11] at H
         have c11b0:=decide_eq_false c11
         clear c11
         by_cases c14:(bt a0 x5_1) > (bt a1 x5_1)
         ·rw [if_pos c14] at H
          have c14b0:=decide_eq_true c14
          clear c14
          obtain rfl:=Option.some.inj H
          have p8:0≤(x5_1:Int):=dt
          have q8:x5_1<(a0.size:Int):=dt
          have hx8:=zj1 a0 x5_1
          replace p8:=eq_true p8
          replace q8:=eq_true q8
          have p10:0≤(x5_1:Int):=dt
          have q10:x5_1<(a1.size:Int):=dt
          have hx10:=zj1 a1 x5_1
          replace p10:=eq_true p10
          replace q10:=eq_true q10
          have p12:0≤(x5_1:Int):=dt
          have q12:x5_1<(a0.size:Int):=dt
          have hx12:=zj1 a0 x5_1
          replace p12:=eq_true p12
          replace q12:=eq_true q12
          have p13:0≤(x5_1:Int):=dt
          have q13:x5_1<(a1.size:Int):=dt
          have hx13:=zj1 a1 x5_1
          replace p13:=eq_true p13
          replace q13:=eq_true q13
          go_wp2
          repeat(go_quiet (fail);try go_wp2)
          go_ret
          exact⟨by first|rfl|(simp;done)|(simp [*];done),by repeat(first|exact zu.refl _|apply zu.step)⟩
         rw [if_neg c14] at H
         have c14b0:=decide_eq_false c14
         clear c14
         have H':=zq.mk H
         clear H
         have p8:0≤(x5_1:Int):=dt
         have q8:x5_1<(a0.size:Int):=dt
         have hx8:=zj1 a0 x5_1
         replace p8:=eq_true p8
         replace q8:=eq_true q8
         have p10:0≤(x5_1:Int):=dt
         have q10:x5_1<(a1.size:Int):=dt
         have hx10:=zj1 a1 x5_1
         replace p10:=eq_true p10
         replace q10:=eq_true q10
         have p12:0≤(x5_1:Int):=dt
         have q12:x5_1<(a0.size:Int):=dt
         have hx12:=zj1 a0 x5_1
         replace p12:=eq_true p12
         replace q12:=eq_true q12
         have p13:0≤(x5_1:Int):=dt
         have q13:x5_1<(a1.size:Int):=dt
         have hx13:=zj1 a1 x5_1
         replace p13:=eq_true p13
         replace q13:=eq_true q13
         go_wp2
         repeat(go_quiet (fail);try go_wp2)
         go_roundg kj2
         case measure=>have:=HK1.out;have:=HJ2.out;omega
         case rel=>exact⟨(wrap64 (x5_1+1)),vr,H',⟨by have:=HK1.out;have:=HJ2.out;omega⟩,by repeat(first|exact zu.refl _|apply zu.step)⟩
        rw [if_neg c9] at H
        exact absurd H (by simp)
       rw [if_neg c7] at H
       exact absurd H (by simp)
      rw [if_neg c6] at H
      exact absurd H (by simp)
     replace c5:=Bool.eq_false_iff.mpr c5
     subst c5
     rw [if_neg (show ¬ (false=true) by decide)] at H
     by_cases c15:(a0.size:Int)<(a1.size:Int)
     ·rw [if_pos c15] at H
      have c15b0:=decide_eq_true c15
      have c15b1:decide (a0.size<a1.size)=true:=decide_eq_true (Int.ofNat_lt.mp c15)
      clear c15
      obtain rfl:=Option.some.inj H
      go_wp2
      repeat(go_quiet (fail);try go_wp2)
      go_ret
      exact⟨by first|rfl|(simp;done)|(simp [*];done),by repeat(first|exact zu.refl _|apply zu.step)⟩
     rw [if_neg c15] at H
     have c15b0:=decide_eq_false c15
     have c15b1:decide (a0.size<a1.size)=false:=decide_eq_false (fun h=>c15 (Int.ofNat_lt.mpr h))
     clear c15
     by_cases c16:(a0.size:Int) > (a1.size:Int)
     ·rw [if_pos c16] at H
      have c16b0:=decide_eq_true c16
      have c16b1:decide (a1.size<a0.size)=true:=decide_eq_true (Int.ofNat_lt.mp c16)
      clear c16
      obtain rfl:=Option.some.inj H
      go_wp2
      repeat(go_quiet (fail);try go_wp2)
      go_ret
      exact⟨by first|rfl|(simp;done)|(simp [*];done),by repeat(first|exact zu.refl _|apply zu.step)⟩
     rw [if_neg c16] at H
     have c16b0:=decide_eq_false c16
     have c16b1:decide (a1.size<a0.size)=false:=decide_eq_false (fun h=>c16 (Int.ofNat_lt.mpr h))
     clear c16
     obtain rfl:=Option.some.inj H
     go_wp2
     repeat(go_quiet (fail);try go_wp2)
     go_ret
     exact⟨by first|rfl|(simp;done)|(simp [*];done),by repeat(first|exact zu.refl _|apply zu.step)⟩

/-! ### qe: function 97 -/
def qe.f (k:Nat) (a0_0:Int) (a0_1:Int) (a0_2:ByteArray) (a1_0:Int) (a1_1:Int) (a1_2:ByteArray):Option (Bool):=if a0_0=a1_0 then(if a0_0=3 then((qz.f k a0_2 a1_2).bind fun t208=>(some (decide (t208<0)))) else (some (decide (a0_1<a1_1)))) else (some (decide (a0_0<a1_0)))
theorem qe.mono:∀ a0 a1 a2 a3 a4 a5 k,LeO (qe.f k a0 a1 a2 a3 a4 a5) (qe.f (k+1) a0 a1 a2 a3 a4 a5):=by
 intro a0 a1 a2 a3 a4 a5 k
 unfold qe.f
 repeat' first
   | (with_reducible first|exact qz.mono _ _ _|exact LeO.refl _|exact LeO.none _|refine LeO.ite ?_ ?_|refine LeO.bind ?_ (fun _=>?_))
   | exact qz.mono _ _ _
   | exact LeO.none _
   | refine LeO.ite ?_ ?_
   | refine LeO.bind ?_ (fun _=>?_)
set_option maxHeartbeats 8000000 in
set_option maxRecDepth 100000 in
theorem qe.calls (k:Nat) (a0_0:Int) (a0_1:Int) (a0_2:ByteArray) (a1_0:Int) (a1_1:Int) (a1_2:ByteArray) (r:Bool) (w:World) (h:qe.f k a0_0 a0_1 a0_2 a1_0 a1_1 a1_2=some r) :
  Calls Tryd.prog 97 #[.agg #[.int .i64 a0_0,.int .i64 a0_1,.string a0_2],.agg #[.int .i64 a1_0,.int .i64 a1_1,.string a1_2]] w fun e w'=>e = .returned (.bool r)∧Below w.heap.size w w':=by
 have hu23:=Tryd.underlying23
 have HB:=zq.mk (Below.refl w.heap.size w)
 have H:(if a0_0=a1_0 then(if a0_0=3 then((qz.f k a0_2 a1_2).bind fun t208=>(some (decide (t208<0)))) else (some (decide (a0_1<a1_1)))) else (some (decide (a0_0<a1_0))))=some r:=h
 clear h
 by_cases c3:a0_0=a1_0
 ·rw [if_pos c3] at H
  have c3b0:(a0_0 == a1_0)=true:=beq_iff_eq.mpr c3
  have c3b1:(a0_0 != a1_0)=false:=bne_eq_false_iff_eq.mpr c3
  clear c3
  by_cases c4:a0_0=3
  ·rw [if_pos c4] at H
   have c4b0:(a0_0 == 3)=true:=beq_iff_eq.mpr c4
   have c4b1:(a0_0 != 3)=false:=bne_eq_false_iff_eq.mpr c4
   clear c4
   replace H:=Option.bind_eq_some_iff.mp H
   obtain ⟨t208,A50,H⟩:=H
   replace H:(some (decide (t208<0)))=some r:=H
   have A5:=zq.mk A50
   clear A50
   obtain rfl:=Option.some.inj H
   go_enter Tryd.func97,Tryd.ntmps97
   go_wp2_with (first|((with_reducible refine qc (N:=2) rfl ?_);refine qn ?hg (N:=2) ?hd (cs:=#[.int .i64 a0_0,.int .i64 a0_1,.string a0_2]) (t:=23) ?hr ?_;(case hd=>rfl);(case hg=>rfl);(case hr=>first|(go_simp;done)|(go_simp;rfl));intro gb206 hg w6 hbox hb;have BK206:=zq.mk (hbox);have GW206:=zq.mk ((by rw [hg];exact(zw bw):w.heap.size≤gb206));have GE206:=zq.mk ((by rw [hg];exact(zw bw):w.heap.size≤gb206));replace HB:=zq.mk (zc bw hb);clear hb hbox hg)|((with_reducible refine qc (N:=3) rfl ?_);refine qn ?hg (N:=3) ?hd (cs:=#[.int .i64 a1_0,.int .i64 a1_1,.string a1_2]) (t:=23) ?hr ?_;(case hd=>rfl);(case hg=>rfl);(case hr=>first|(go_simp;done)|(go_simp;rfl));intro gb207 hg w7 hbox hb;have BK207:=zq.mk (hbox);have GW207:=zq.mk ((by rw [hg];exact(zw bw):w.heap.size≤gb207));have GE207:=zq.mk ((by rw [hg];exact(zw bw):w.heap.size≤gb207));replace HB:=zq.mk (zc bw hb);have NB206_207:=zq.mk ((by rw [hg];exact Nat.ne_of_lt (qd (g:=gb206) (o:=.cells #[.int .i64 a0_0,.int .i64 a0_1,.string a0_2] 23 (0,0)) (up BK206.out)):gb206≠gb207));have NB207_206:=zq.mk ((by rw [hg];exact Nat.ne_of_gt (qd (g:=gb206) (o:=.cells #[.int .i64 a0_0,.int .i64 a0_1,.string a0_2] 23 (0,0)) (up BK206.out)):gb207≠gb206));replace BK206:=zq.mk (zl (g:=gb206) (o:=.cells #[.int .i64 a0_0,.int .i64 a0_1,.string a0_2] 23 (0,0)) (up BK206.out) hb);clear hb hbox hg;have hnb8:=NB206_207.out;have hnc8:=NB207_206.out;obtain ⟨hcz9_0,hcz9_1,hcz9_2,hfz9_0,hfz9_1,hfz9_2⟩:=zd BK206.out;obtain ⟨hcz10_0,hcz10_1,hcz10_2,hfz10_0,hfz10_1,hfz10_2⟩:=zd BK207.out)|((with_reducible refine zo (f:=108) rfl ?_);refine qo (some 22) rfl rfl Tryd.func108 (by kernel_rfl) rfl #[.string a0_2,.string a1_2] rfl gs ?_;(with_reducible refine(qz.calls k a0_2 a1_2 t208 _ A5.out).mono ?_);rintro e w' ⟨rfl,⟨nd,rfl⟩⟩;refine⟨_,rfl,?_⟩))
   go_ret
   exact⟨by first|rfl|(simp [zk,zx] <;> rfl)|(simp [*,zk,zx] <;> rfl),bw⟩
  rw [if_neg c4] at H
  have c4b0:(a0_0 == 3)=false:=beq_eq_false_iff_ne.mpr c4
  have c4b1:(a0_0 != 3)=true:=bne_iff_ne.mpr c4
  obtain rfl:=Option.some.inj H
  go_enter Tryd.func97,Tryd.ntmps97
  go_wp2_with (first|((with_reducible refine qc (N:=2) rfl ?_);refine qn ?hg (N:=2) ?hd (cs:=#[.int .i64 a0_0,.int .i64 a0_1,.string a0_2]) (t:=23) ?hr ?_;(case hd=>rfl);(case hg=>rfl);(case hr=>first|(go_simp;done)|(go_simp;rfl));intro gb206 hg w11 hbox hb;have BK206:=zq.mk (hbox);have GW206:=zq.mk ((by rw [hg];exact(zw bw):w.heap.size≤gb206));have GE206:=zq.mk ((by rw [hg];exact(zw bw):w.heap.size≤gb206));replace HB:=zq.mk (zc bw hb);clear hb hbox hg)|((with_reducible refine qc (N:=3) rfl ?_);refine qn ?hg (N:=3) ?hd (cs:=#[.int .i64 a1_0,.int .i64 a1_1,.string a1_2]) (t:=23) ?hr ?_;(case hd=>rfl);(case hg=>rfl);(case hr=>first|(go_simp;done)|(go_simp;rfl));intro gb207 hg w12 hbox hb;have BK207:=zq.mk (hbox);have GW207:=zq.mk ((by rw [hg];exact(zw bw):w.heap.size≤gb207));have GE207:=zq.mk ((by rw [hg];exact(zw bw):w.heap.size≤gb207));replace HB:=zq.mk (zc bw hb);have NB206_207:=zq.mk ((by rw [hg];exact Nat.ne_of_lt (qd (g:=gb206) (o:=.cells #[.int .i64 a0_0,.int .i64 a0_1,.string a0_2] 23 (0,0)) (up BK206.out)):gb206≠gb207));have NB207_206:=zq.mk ((by rw [hg];exact Nat.ne_of_gt (qd (g:=gb206) (o:=.cells #[.int .i64 a0_0,.int .i64 a0_1,.string a0_2] 23 (0,0)) (up BK206.out)):gb207≠gb206));replace BK206:=zq.mk (zl (g:=gb206) (o:=.cells #[.int .i64 a0_0,.int .i64 a0_1,.string a0_2] 23 (0,0)) (up BK206.out) hb);clear hb hbox hg;have hnb13:=NB206_207.out;have hnc13:=NB207_206.out;obtain ⟨hcz14_0,hcz14_1,hcz14_2,hfz14_0,hfz14_1,hfz14_2⟩:=zd BK206.out;obtain ⟨hcz15_0,hcz15_1,hcz15_2,hfz15_0,hfz15_1,hfz15_2⟩:=zd BK207.out))
  go_ret
  exact⟨by first|rfl|(simp [zk,zx] <;> rfl)|(simp [*,zk,zx] <;> rfl),bw⟩
 rw [if_neg c3] at H
 have c3b0:(a0_0 == a1_0)=false:=beq_eq_false_iff_ne.mpr c3
 have c3b1:(a0_0 != a1_0)=true:=bne_iff_ne.mpr c3
 obtain rfl:=Option.some.inj H
 go_enter Tryd.func97,Tryd.ntmps97
 go_wp2_with (first|((with_reducible refine qc (N:=2) rfl ?_);refine qn ?hg (N:=2) ?hd (cs:=#[.int .i64 a0_0,.int .i64 a0_1,.string a0_2]) (t:=23) ?hr ?_;(case hd=>rfl);(case hg=>rfl);(case hr=>first|(go_simp;done)|(go_simp;rfl));intro gb206 hg w16 hbox hb;have BK206:=zq.mk (hbox);have GW206:=zq.mk ((by rw [hg];exact(zw bw):w.heap.size≤gb206));have GE206:=zq.mk ((by rw [hg];exact(zw bw):w.heap.size≤gb206));replace HB:=zq.mk (zc bw hb);clear hb hbox hg)|((with_reducible refine qc (N:=3) rfl ?_);refine qn ?hg (N:=3) ?hd (cs:=#[.int .i64 a1_0,.int .i64 a1_1,.string a1_2]) (t:=23) ?hr ?_;(case hd=>rfl);(case hg=>rfl);(case hr=>first|(go_simp;done)|(go_simp;rfl));intro gb207 hg w17 hbox hb;have BK207:=zq.mk (hbox);have GW207:=zq.mk ((by rw [hg];exact(zw bw):w.heap.size≤gb207));have GE207:=zq.mk ((by rw [hg];exact(zw bw):w.heap.size≤gb207));replace HB:=zq.mk (zc bw hb);have NB206_207:=zq.mk ((by rw [hg];exact Nat.ne_of_lt (qd (g:=gb206) (o:=.cells #[.int .i64 a0_0,.int .i64 a0_1,.string a0_2] 23 (0,0)) (up BK206.out)):gb206≠gb207));have NB207_206:=zq.mk ((by rw [hg];exact Nat.ne_of_gt (qd (g:=gb206) (o:=.cells #[.int .i64 a0_0,.int .i64 a0_1,.string a0_2] 23 (0,0)) (up BK206.out)):gb207≠gb206));replace BK206:=zq.mk (zl (g:=gb206) (o:=.cells #[.int .i64 a0_0,.int .i64 a0_1,.string a0_2] 23 (0,0)) (up BK206.out) hb);clear hb hbox hg;have hnb18:=NB206_207.out;have hnc18:=NB207_206.out;obtain ⟨hcz19_0,hcz19_1,hcz19_2,hfz19_0,hfz19_1,hfz19_2⟩:=zd BK206.out;obtain ⟨hcz20_0,hcz20_1,hcz20_2,hfz20_0,hfz20_1,hfz20_2⟩:=zd BK207.out))
 go_ret
 exact⟨by first|rfl|(simp [zk,zx] <;> rfl)|(simp [*,zk,zx] <;> rfl),bw⟩

/-! ### qu: function 75 -/
def qu.f (k:Nat) (a0_0:Int) (a0_1:Int) (a0_2:ByteArray) (a1_0:Int) (a1_1:Int) (a1_2:ByteArray):Option (Int × Int):=(zv.f k a0_0 a0_1 a0_2).bind fun t211=>(if t211=0 then((zv.f k a1_0 a1_1 a1_2).bind fun t212=>(if t212=0 then((qe.f k a0_0 a0_1 a0_2 a1_0 a1_1 a1_2).bind fun t213=>(if t213=true then(some ((-1),0)) else ((qe.f k a1_0 a1_1 a1_2 a0_0 a0_1 a0_2).bind fun t214=>(if t214=true then(some (1,0)) else (some (0,0)))))) else (some (0,t212)))) else (some (0,t211)))
theorem qu.mono:∀ a0 a1 a2 a3 a4 a5 k,LeO (qu.f k a0 a1 a2 a3 a4 a5) (qu.f (k+1) a0 a1 a2 a3 a4 a5):=by
 intro a0 a1 a2 a3 a4 a5 k
 unfold qu.f
 repeat' first
   | (with_reducible first|exact zv.mono _ _ _ _|exact qe.mono _ _ _ _ _ _ _|exact LeO.refl _|exact LeO.none _|refine LeO.ite ?_ ?_|refine LeO.bind ?_ (fun _=>?_))
   | exact zv.mono _ _ _ _
   | exact qe.mono _ _ _ _ _ _ _
   | exact LeO.none _
   | refine LeO.ite ?_ ?_
   | refine LeO.bind ?_ (fun _=>?_)
set_option maxHeartbeats 8000000 in
set_option maxRecDepth 100000 in
theorem qu.calls (k:Nat) (a0_0:Int) (a0_1:Int) (a0_2:ByteArray) (a1_0:Int) (a1_1:Int) (a1_2:ByteArray) (r1:Int) (r2:Int) (w:World) (h:qu.f k a0_0 a0_1 a0_2 a1_0 a1_1 a1_2=some (r1,r2)) :
  Calls Tryd.prog 75 #[.agg #[.int .i64 a0_0,.int .i64 a0_1,.string a0_2],.agg #[.int .i64 a1_0,.int .i64 a1_1,.string a1_2]] w fun e w'=>e = .returned (.tuple #[.int .i64 r1,.int .i64 r2])∧Below w.heap.size w w':=by
 have hu23:=Tryd.underlying23
 have HB:=zq.mk (Below.refl w.heap.size w)
 have H:((zv.f k a0_0 a0_1 a0_2).bind fun t211=>(if t211=0 then((zv.f k a1_0 a1_1 a1_2).bind fun t212=>(if t212=0 then((qe.f k a0_0 a0_1 a0_2 a1_0 a1_1 a1_2).bind fun t213=>(if t213=true then(some ((-1),0)) else ((qe.f k a1_0 a1_1 a1_2 a0_0 a0_1 a0_2).bind fun t214=>(if t214=true then(some (1,0)) else (some (0,0)))))) else (some (0,t212)))) else (some (0,t211))))=some (r1,r2):=h
 clear h
 replace H:=Option.bind_eq_some_iff.mp H
 obtain ⟨t211,A30,H⟩:=H
 replace H:(if t211=0 then((zv.f k a1_0 a1_1 a1_2).bind fun t212=>(if t212=0 then((qe.f k a0_0 a0_1 a0_2 a1_0 a1_1 a1_2).bind fun t213=>(if t213=true then(some ((-1),0)) else ((qe.f k a1_0 a1_1 a1_2 a0_0 a0_1 a0_2).bind fun t214=>(if t214=true then(some (1,0)) else (some (0,0)))))) else (some (0,t212)))) else (some (0,t211)))=some (r1,r2):=H
 have A3:=zq.mk A30
 clear A30
 by_cases c4:t211=0
 ·rw [if_pos c4] at H
  have c4b0:(t211 == 0)=true:=beq_iff_eq.mpr c4
  have c4b1:(t211 != 0)=false:=bne_eq_false_iff_eq.mpr c4
  clear c4
  replace H:=Option.bind_eq_some_iff.mp H
  obtain ⟨t212,A50,H⟩:=H
  replace H:(if t212=0 then((qe.f k a0_0 a0_1 a0_2 a1_0 a1_1 a1_2).bind fun t213=>(if t213=true then(some ((-1),0)) else ((qe.f k a1_0 a1_1 a1_2 a0_0 a0_1 a0_2).bind fun t214=>(if t214=true then(some (1,0)) else (some (0,0)))))) else (some (0,t212)))=some (r1,r2):=H
  have A5:=zq.mk A50
  clear A50
  by_cases c6:t212=0
  ·rw [if_pos c6] at H
   have c6b0:(t212 == 0)=true:=beq_iff_eq.mpr c6
   have c6b1:(t212 != 0)=false:=bne_eq_false_iff_eq.mpr c6
   clear c6
   replace H:=Option.bind_eq_some_iff.mp H
   obtain ⟨t213,A70,H⟩:=H
   replace H:(if t213=true then(some ((-1),0)) else ((qe.f k a1_0 a1_1 a1_2 a0_0 a0_1 a0_2).bind fun t214=>(if t214=true then(some (1,0)) else (some (0,0)))))=some (r1,r2):=H
   have A7:=zq.mk A70
   clear A70
   by_cases c8:t213=true
   ·subst c8
    rw [if_pos rfl] at H
    simp only [Option.some.injEq,Prod.mk.injEq] at H
    obtain ⟨rfl,rfl⟩:=H
    go_enter Tryd.func75,Tryd.ntmps75
    go_wp2_with (first|((with_reducible refine qc (N:=2) rfl ?_);refine qn ?hg (N:=2) ?hd (cs:=#[.int .i64 a0_0,.int .i64 a0_1,.string a0_2]) (t:=23) ?hr ?_;(case hd=>rfl);(case hg=>rfl);(case hr=>first|(go_simp;done)|(go_simp;rfl));intro gb209 hg w9 hbox hb;have BK209:=zq.mk (hbox);have GW209:=zq.mk ((by rw [hg];exact(zw bw):w.heap.size≤gb209));have GE209:=zq.mk ((by rw [hg];exact(zw bw):w.heap.size≤gb209));replace HB:=zq.mk (zc bw hb);clear hb hbox hg)|((with_reducible refine qc (N:=3) rfl ?_);refine qn ?hg (N:=3) ?hd (cs:=#[.int .i64 a1_0,.int .i64 a1_1,.string a1_2]) (t:=23) ?hr ?_;(case hd=>rfl);(case hg=>rfl);(case hr=>first|(go_simp;done)|(go_simp;rfl));intro gb210 hg w10 hbox hb;have BK210:=zq.mk (hbox);have GW210:=zq.mk ((by rw [hg];exact(zw bw):w.heap.size≤gb210));have GE210:=zq.mk ((by rw [hg];exact(zw bw):w.heap.size≤gb210));replace HB:=zq.mk (zc bw hb);have NB209_210:=zq.mk ((by rw [hg];exact Nat.ne_of_lt (qd (g:=gb209) (o:=.cells #[.int .i64 a0_0,.int .i64 a0_1,.string a0_2] 23 (0,0)) (up BK209.out)):gb209≠gb210));have NB210_209:=zq.mk ((by rw [hg];exact Nat.ne_of_gt (qd (g:=gb209) (o:=.cells #[.int .i64 a0_0,.int .i64 a0_1,.string a0_2] 23 (0,0)) (up BK209.out)):gb210≠gb209));replace BK209:=zq.mk (zl (g:=gb209) (o:=.cells #[.int .i64 a0_0,.int .i64 a0_1,.string a0_2] 23 (0,0)) (up BK209.out) hb);clear hb hbox hg;have hnb11:=NB209_210.out;have hnc11:=NB210_209.out;obtain ⟨hcz12_0,hcz12_1,hcz12_2,hfz12_0,hfz12_1,hfz12_2⟩:=zd BK209.out)|((with_reducible refine zo (f:=45) rfl ?_);refine qo (some 9) rfl rfl Tryd.func45 (by kernel_rfl) rfl #[.agg #[.int .i64 a0_0,.int .i64 a0_1,.string a0_2]] rfl gs ?_;(with_reducible refine(zv.calls k a0_0 a0_1 a0_2 t211 _ A3.out).mono ?_);rintro e w13 ⟨rfl,hb⟩;refine⟨_,rfl,?_⟩;replace BK209:=zq.mk (zl (g:=gb209) (o:=.cells #[.int .i64 a0_0,.int .i64 a0_1,.string a0_2] 23 (0,0)) (up BK209.out) hb);replace BK210:=zq.mk (zl (g:=gb210) (o:=.cells #[.int .i64 a1_0,.int .i64 a1_1,.string a1_2] 23 (0,0)) (up BK210.out) hb);replace HB:=zq.mk (zc bw hb);(try clear hb);(try clear hb2);(try clear hk);(try clear hi);obtain ⟨hcz14_0,hcz14_1,hcz14_2,hfz14_0,hfz14_1,hfz14_2⟩:=zd BK210.out)|((with_reducible refine zo (f:=45) rfl ?_);refine qo (some 14) rfl rfl Tryd.func45 (by kernel_rfl) rfl #[.agg #[.int .i64 a1_0,.int .i64 a1_1,.string a1_2]] rfl gs ?_;(with_reducible refine(zv.calls k a1_0 a1_1 a1_2 t212 _ A5.out).mono ?_);rintro e w15 ⟨rfl,hb⟩;refine⟨_,rfl,?_⟩;replace BK209:=zq.mk (zl (g:=gb209) (o:=.cells #[.int .i64 a0_0,.int .i64 a0_1,.string a0_2] 23 (0,0)) (up BK209.out) hb);replace BK210:=zq.mk (zl (g:=gb210) (o:=.cells #[.int .i64 a1_0,.int .i64 a1_1,.string a1_2] 23 (0,0)) (up BK210.out) hb);replace HB:=zq.mk (zc bw hb);(try clear hb);(try clear hb2);(try clear hk);(try clear hi);obtain ⟨hcz16_0,hcz16_1,hcz16_2,hfz16_0,hfz16_1,hfz16_2⟩:=zd BK209.out;obtain ⟨hcz17_0,hcz17_1,hcz17_2,hfz17_0,hfz17_1,hfz17_2⟩:=zd BK210.out)|((with_reducible refine zo (f:=97) rfl ?_);refine qo (some 20) rfl rfl Tryd.func97 (by kernel_rfl) rfl #[.agg #[.int .i64 a0_0,.int .i64 a0_1,.string a0_2],.agg #[.int .i64 a1_0,.int .i64 a1_1,.string a1_2]] rfl gs ?_;(with_reducible refine(qe.calls k a0_0 a0_1 a0_2 a1_0 a1_1 a1_2 true _ A7.out).mono ?_);rintro e w18 ⟨rfl,hb⟩;refine⟨_,rfl,?_⟩;replace BK209:=zq.mk (zl (g:=gb209) (o:=.cells #[.int .i64 a0_0,.int .i64 a0_1,.string a0_2] 23 (0,0)) (up BK209.out) hb);replace BK210:=zq.mk (zl (g:=gb210) (o:=.cells #[.int .i64 a1_0,.int .i64 a1_1,.string a1_2] 23 (0,0)) (up BK210.out) hb);replace HB:=zq.mk (zc bw hb);(try clear hb);(try clear hb2);(try clear hk);(try clear hi)))
    go_ret2
    exact⟨by first|rfl|(simp [zk,zx] <;> rfl)|(simp [*,zk,zx] <;> rfl),bw⟩
   replace c8:=Bool.eq_false_iff.mpr c8
   subst c8
   rw [if_neg (show ¬ (false=true) by decide)] at H
   replace H:=Option.bind_eq_some_iff.mp H
   obtain ⟨t214,A190,H⟩:=H
   replace H:(if t214=true then(some (1,0)) else (some (0,0)))=some (r1,r2):=H
   have A19:=zq.mk A190
   clear A190
   by_cases c20:t214=true
   ·subst c20
    rw [if_pos rfl] at H
    simp only [Option.some.injEq,Prod.mk.injEq] at H
    obtain ⟨rfl,rfl⟩:=H
    go_enter Tryd.func75,Tryd.ntmps75
    go_wp2_with (first|((with_reducible refine qc (N:=2) rfl ?_);refine qn ?hg (N:=2) ?hd (cs:=#[.int .i64 a0_0,.int .i64 a0_1,.string a0_2]) (t:=23) ?hr ?_;(case hd=>rfl);(case hg=>rfl);(case hr=>first|(go_simp;done)|(go_simp;rfl));intro gb209 hg w21 hbox hb;have BK209:=zq.mk (hbox);have GW209:=zq.mk ((by rw [hg];exact(zw bw):w.heap.size≤gb209));have GE209:=zq.mk ((by rw [hg];exact(zw bw):w.heap.size≤gb209));replace HB:=zq.mk (zc bw hb);clear hb hbox hg)|((with_reducible refine qc (N:=3) rfl ?_);refine qn ?hg (N:=3) ?hd (cs:=#[.int .i64 a1_0,.int .i64 a1_1,.string a1_2]) (t:=23) ?hr ?_;(case hd=>rfl);(case hg=>rfl);(case hr=>first|(go_simp;done)|(go_simp;rfl));intro gb210 hg w22 hbox hb;have BK210:=zq.mk (hbox);have GW210:=zq.mk ((by rw [hg];exact(zw bw):w.heap.size≤gb210));have GE210:=zq.mk ((by rw [hg];exact(zw bw):w.heap.size≤gb210));replace HB:=zq.mk (zc bw hb);have NB209_210:=zq.mk ((by rw [hg];exact Nat.ne_of_lt (qd (g:=gb209) (o:=.cells #[.int .i64 a0_0,.int .i64 a0_1,.string a0_2] 23 (0,0)) (up BK209.out)):gb209≠gb210));have NB210_209:=zq.mk ((by rw [hg];exact Nat.ne_of_gt (qd (g:=gb209) (o:=.cells #[.int .i64 a0_0,.int .i64 a0_1,.string a0_2] 23 (0,0)) (up BK209.out)):gb210≠gb209));replace BK209:=zq.mk (zl (g:=gb209) (o:=.cells #[.int .i64 a0_0,.int .i64 a0_1,.string a0_2] 23 (0,0)) (up BK209.out) hb);clear hb hbox hg;have hnb23:=NB209_210.out;have hnc23:=NB210_209.out;obtain ⟨hcz24_0,hcz24_1,hcz24_2,hfz24_0,hfz24_1,hfz24_2⟩:=zd BK209.out)|((with_reducible refine zo (f:=45) rfl ?_);refine qo (some 9) rfl rfl Tryd.func45 (by kernel_rfl) rfl #[.agg #[.int .i64 a0_0,.int .i64 a0_1,.string a0_2]] rfl gs ?_;(with_reducible refine(zv.calls k a0_0 a0_1 a0_2 t211 _ A3.out).mono ?_);rintro e w25 ⟨rfl,hb⟩;refine⟨_,rfl,?_⟩;replace BK209:=zq.mk (zl (g:=gb209) (o:=.cells #[.int .i64 a0_0,.int .i64 a0_1,.string a0_2] 23 (0,0)) (up BK209.out) hb);replace BK210:=zq.mk (zl (g:=gb210) (o:=.cells #[.int .i64 a1_0,.int .i64 a1_1,.string a1_2] 23 (0,0)) (up BK210.out) hb);replace HB:=zq.mk (zc bw hb);(try clear hb);(try clear hb2);(try clear hk);(try clear hi);obtain ⟨hcz26_0,hcz26_1,hcz26_2,hfz26_0,hfz26_1,hfz26_2⟩:=zd BK210.out)|((with_reducible refine zo (f:=45) rfl ?_);refine qo (some 14) rfl rfl Tryd.func45 (by kernel_rfl) rfl #[.agg #[.int .i64 a1_0,.int .i64 a1_1,.string a1_2]] rfl gs ?_;(with_reducible refine(zv.calls k a1_0 a1_1 a1_2 t212 _ A5.out).mono ?_);rintro e w27 ⟨rfl,hb⟩;refine⟨_,rfl,?_⟩;replace BK209:=zq.mk (zl (g:=gb209) (o:=.cells #[.int .i64 a0_0,.int .i64 a0_1,.string a0_2] 23 (0,0)) (up BK209.out) hb);replace BK210:=zq.mk (zl (g:=gb210) (o:=.cells #[.int .i64 a1_0,.int .i64 a1_1,.string a1_2] 23 (0,0)) (up BK210.out) hb);replace HB:=zq.mk (zc bw hb);(try clear hb);(try clear hb2);(try clear hk);(try clear hi);obtain ⟨hcz28_0,hcz28_1,hcz28_2,hfz28_0,hfz28_1,hfz28_2⟩:=zd BK209.out;obtain ⟨hcz29_0,hcz29_1,hcz29_2,hfz29_0,hfz29_1,hfz29_2⟩:=zd BK210.out)|((with_reducible refine zo (f:=97) rfl ?_);refine qo (some 20) rfl rfl Tryd.func97 (by kernel_rfl) rfl #[.agg #[.int .i64 a0_0,.int .i64 a0_1,.string a0_2],.agg #[.int .i64 a1_0,.int .i64 a1_1,.string a1_2]] rfl gs ?_;(with_reducible refine(qe.calls k a0_0 a0_1 a0_2 a1_0 a1_1 a1_2 false _ A7.out).mono ?_);rintro e w30 ⟨rfl,hb⟩;refine⟨_,rfl,?_⟩;replace BK209:=zq.mk (zl (g:=gb209) (o:=.cells #[.int .i64 a0_0,.int .i64 a0_1,.string a0_2] 23 (0,0)) (up BK209.out) hb);replace BK210:=zq.mk (zl (g:=gb210) (o:=.cells #[.int .i64 a1_0,.int .i64 a1_1,.string a1_2] 23 (0,0)) (up BK210.out) hb);replace HB:=zq.mk (zc bw hb);(try clear hb);(try clear hb2);(try clear hk);(try clear hi);obtain ⟨hcz31_0,hcz31_1,hcz31_2,hfz31_0,hfz31_1,hfz31_2⟩:=zd BK210.out;obtain ⟨hcz32_0,hcz32_1,hcz32_2,hfz32_0,hfz32_1,hfz32_2⟩:=zd BK209.out)|((with_reducible refine zo (f:=97) rfl ?_);refine qo (some 23) rfl rfl Tryd.func97 (by kernel_rfl) rfl #[.agg #[.int .i64 a1_0,.int .i64 a1_1,.string a1_2],.agg #[.int .i64 a0_0,.int .i64 a0_1,.string a0_2]] rfl gs ?_;(with_reducible refine(qe.calls k a1_0 a1_1 a1_2 a0_0 a0_1 a0_2 true _ A19.out).mono ?_);rintro e w33 ⟨rfl,hb⟩;refine⟨_,rfl,?_⟩;replace BK209:=zq.mk (zl (g:=gb209) (o:=.cells #[.int .i64 a0_0,.int .i64 a0_1,.string a0_2] 23 (0,0)) (up BK209.out) hb);replace BK210:=zq.mk (zl (g:=gb210) (o:=.cells #[.int .i64 a1_0,.int .i64 a1_1,.string a1_2] 23 (0,0)) (up BK210.out) hb);replace HB:=zq.mk (zc bw hb);(try clear hb);(try clear hb2);(try clear hk);(try clear hi)))
    go_ret2
    exact⟨by first|rfl|(simp [zk,zx] <;> rfl)|(simp [*,zk,zx] <;> rfl),bw⟩
   replace c20:=Bool.eq_false_iff.mpr c20
   subst c20
   rw [if_neg (show ¬ (false=true) by decide)] at H
   simp only [Option.some.injEq,Prod.mk.injEq] at H
   obtain ⟨rfl,rfl⟩:=H
   go_enter Tryd.func75,Tryd.ntmps75
   go_wp2_with (first|((with_reducible refine qc (N:=2) rfl ?_);refine qn ?hg (N:=2) ?hd (cs:=#[.int .i64 a0_0,.int .i64 a0_1,.string a0_2]) (t:=23) ?hr ?_;(case hd=>rfl);(case hg=>rfl);(case hr=>first|(go_simp;done)|(go_simp;rfl));intro gb209 hg w34 hbox hb;have BK209:=zq.mk (hbox);have GW209:=zq.mk ((by rw [hg];exact(zw bw):w.heap.size≤gb209));have GE209:=zq.mk ((by rw [hg];exact(zw bw):w.heap.size≤gb209));replace HB:=zq.mk (zc bw hb);clear hb hbox hg)|((with_reducible refine qc (N:=3) rfl ?_);refine qn ?hg (N:=3) ?hd (cs:=#[.int .i64 a1_0,.int .i64 a1_1,.string a1_2]) (t:=23) ?hr ?_;(case hd=>rfl);(case hg=>rfl);(case hr=>first|(go_simp;done)|(go_simp;rfl));intro gb210 hg w35 hbox hb;have BK210:=zq.mk (hbox);have GW210:=zq.mk ((by rw [hg];exact(zw bw):w.heap.size≤gb210));have GE210:=zq.mk ((by rw [hg];exact(zw bw):w.heap.size≤gb210));replace HB:=zq.mk (zc bw hb);have NB209_210:=zq.mk ((by rw [hg];exact Nat.ne_of_lt (qd (g:=gb209) (o:=.cells #[.int .i64 a0_0,.int .i64 a0_1,.string a0_2] 23 (0,0)) (up BK209.out)):gb209≠gb210));have NB210_209:=zq.mk ((by rw [hg];exact Nat.ne_of_gt (qd (g:=gb209) (o:=.cells #[.int .i64 a0_0,.int .i64 a0_1,.string a0_2] 23 (0,0)) (up BK209.out)):gb210≠gb209));replace BK209:=zq.mk (zl (g:=gb209) (o:=.cells #[.int .i64 a0_0,.int .i64 a0_1,.string a0_2] 23 (0,0)) (up BK209.out) hb);clear hb hbox hg;have hnb36:=NB209_210.out;have hnc36:=NB210_209.out;obtain ⟨hcz37_0,hcz37_1,hcz37_2,hfz37_0,hfz37_1,hfz37_2⟩:=zd BK209.out)|((with_reducible refine zo (f:=45) rfl ?_);refine qo (some 9) rfl rfl Tryd.func45 (by kernel_rfl) rfl #[.agg #[.int .i64 a0_0,.int .i64 a0_1,.string a0_2]] rfl gs ?_;(with_reducible refine(zv.calls k a0_0 a0_1 a0_2 t211 _ A3.out).mono ?_);rintro e w38 ⟨rfl,hb⟩;refine⟨_,rfl,?_⟩;replace BK209:=zq.mk (zl (g:=gb209) (o:=.cells #[.int .i64 a0_0,.int .i64 a0_1,.string a0_2] 23 (0,0)) (up BK209.out) hb);replace BK210:=zq.mk (zl (g:=gb210) (o:=.cells #[.int .i64 a1_0,.int .i64 a1_1,.string a1_2] 23 (0,0)) (up BK210.out) hb);replace HB:=zq.mk (zc bw hb);(try clear hb);(try clear hb2);(try clear hk);(try clear hi);obtain ⟨hcz39_0,hcz39_1,hcz39_2,hfz39_0,hfz39_1,hfz39_2⟩:=zd BK210.out)|((with_reducible refine zo (f:=45) rfl ?_);refine qo (some 14) rfl rfl Tryd.func45 (by kernel_rfl) rfl #[.agg #[.int .i64 a1_0,.int .i64 a1_1,.string a1_2]] rfl gs ?_;(with_reducible refine(zv.calls k a1_0 a1_1 a1_2 t212 _ A5.out).mono ?_);rintro e w40 ⟨rfl,hb⟩;refine⟨_,rfl,?_⟩;replace BK209:=zq.mk (zl (g:=gb209) (o:=.cells #[.int .i64 a0_0,.int .i64 a0_1,.string a0_2] 23 (0,0)) (up BK209.out) hb);replace BK210:=zq.mk (zl (g:=gb210) (o:=.cells #[.int .i64 a1_0,.int .i64 a1_1,.string a1_2] 23 (0,0)) (up BK210.out) hb);replace HB:=zq.mk (zc bw hb);(try clear hb);(try clear hb2);(try clear hk);(try clear hi);obtain ⟨hcz41_0,hcz41_1,hcz41_2,hfz41_0,hfz41_1,hfz41_2⟩:=zd BK209.out;obtain ⟨hcz42_0,hcz42_1,hcz42_2,hfz42_0,hfz42_1,hfz42_2⟩:=zd BK210.out)|((with_reducible refine zo (f:=97) rfl ?_);refine qo (some 20) rfl rfl Tryd.func97 (by kernel_rfl) rfl #[.agg #[.int .i64 a0_0,.int .i64 a0_1,.string a0_2],.agg #[.int .i64 a1_0,.int .i64 a1_1,.string a1_2]] rfl gs ?_;(with_reducible refine(qe.calls k a0_0 a0_1 a0_2 a1_0 a1_1 a1_2 false _ A7.out).mono ?_);rintro e w43 ⟨rfl,hb⟩;refine⟨_,rfl,?_⟩;replace BK209:=zq.mk (zl (g:=gb209) (o:=.cells #[.int .i64 a0_0,.int .i64 a0_1,.string a0_2] 23 (0,0)) (up BK209.out) hb);replace BK210:=zq.mk (zl (g:=gb210) (o:=.cells #[.int .i64 a1_0,.int .i64 a1_1,.string a1_2] 23 (0,0)) (up BK210.out) hb);replace HB:=zq.mk (zc bw hb);(try clear hb);(try clear hb2);(try clear hk);(try clear hi);obtain ⟨hcz44_0,hcz44_1,hcz44_2,hfz44_0,hfz44_1,hfz44_2⟩:=zd BK210.out;obtain ⟨hcz45_0,hcz45_1,hcz45_2,hfz45_0,hfz45_1,hfz45_2⟩:=zd BK209.out)|((with_reducible refine zo (f:=97) rfl ?_);refine qo (some 23) rfl rfl Tryd.func97 (by kernel_rfl) rfl #[.agg #[.int .i64 a1_0,.int .i64 a1_1,.string a1_2],.agg #[.int .i64 a0_0,.int .i64 a0_1,.string a0_2]] rfl gs ?_;(with_reducible refine(qe.calls k a1_0 a1_1 a1_2 a0_0 a0_1 a0_2 false _ A19.out).mono ?_);rintro e w46 ⟨rfl,hb⟩;refine⟨_,rfl,?_⟩;replace BK209:=zq.mk (zl (g:=gb209) (o:=.cells #[.int .i64 a0_0,.int .i64 a0_1,.string a0_2] 23 (0,0)) (up BK209.out) hb);replace BK210:=zq.mk (zl (g:=gb210) (o:=.cells #[.int .i64 a1_0,.int .i64 a1_1,.string a1_2] 23 (0,0)) (up BK210.out) hb);replace HB:=zq.mk (zc bw hb);(try clear hb);(try clear hb2);(try clear hk);(try clear hi)))
   go_ret2
   exact⟨by first|rfl|(simp [zk,zx] <;> rfl)|(simp [*,zk,zx] <;> rfl),bw⟩
  rw [if_neg c6] at H
  have c6b0:(t212 == 0)=false:=beq_eq_false_iff_ne.mpr c6
  have c6b1:(t212 != 0)=true:=bne_iff_ne.mpr c6
  simp only [Option.some.injEq,Prod.mk.injEq] at H
  obtain ⟨rfl,rfl⟩:=H
  go_enter Tryd.func75,Tryd.ntmps75
  go_wp2_with (first|((with_reducible refine qc (N:=2) rfl ?_);refine qn ?hg (N:=2) ?hd (cs:=#[.int .i64 a0_0,.int .i64 a0_1,.string a0_2]) (t:=23) ?hr ?_;(case hd=>rfl);(case hg=>rfl);(case hr=>first|(go_simp;done)|(go_simp;rfl));intro gb209 hg w47 hbox hb;have BK209:=zq.mk (hbox);have GW209:=zq.mk ((by rw [hg];exact(zw bw):w.heap.size≤gb209));have GE209:=zq.mk ((by rw [hg];exact(zw bw):w.heap.size≤gb209));replace HB:=zq.mk (zc bw hb);clear hb hbox hg)|((with_reducible refine qc (N:=3) rfl ?_);refine qn ?hg (N:=3) ?hd (cs:=#[.int .i64 a1_0,.int .i64 a1_1,.string a1_2]) (t:=23) ?hr ?_;(case hd=>rfl);(case hg=>rfl);(case hr=>first|(go_simp;done)|(go_simp;rfl));intro gb210 hg w48 hbox hb;have BK210:=zq.mk (hbox);have GW210:=zq.mk ((by rw [hg];exact(zw bw):w.heap.size≤gb210));have GE210:=zq.mk ((by rw [hg];exact(zw bw):w.heap.size≤gb210));replace HB:=zq.mk (zc bw hb);have NB209_210:=zq.mk ((by rw [hg];exact Nat.ne_of_lt (qd (g:=gb209) (o:=.cells #[.int .i64 a0_0,.int .i64 a0_1,.string a0_2] 23 (0,0)) (up BK209.out)):gb209≠gb210));have NB210_209:=zq.mk ((by rw [hg];exact Nat.ne_of_gt (qd (g:=gb209) (o:=.cells #[.int .i64 a0_0,.int .i64 a0_1,.string a0_2] 23 (0,0)) (up BK209.out)):gb210≠gb209));replace BK209:=zq.mk (zl (g:=gb209) (o:=.cells #[.int .i64 a0_0,.int .i64 a0_1,.string a0_2] 23 (0,0)) (up BK209.out) hb);clear hb hbox hg;have hnb49:=NB209_210.out;have hnc49:=NB210_209.out;obtain ⟨hcz50_0,hcz50_1,hcz50_2,hfz50_0,hfz50_1,hfz50_2⟩:=zd BK209.out)|((with_reducible refine zo (f:=45) rfl ?_);refine qo (some 9) rfl rfl Tryd.func45 (by kernel_rfl) rfl #[.agg #[.int .i64 a0_0,.int .i64 a0_1,.string a0_2]] rfl gs ?_;(with_reducible refine(zv.calls k a0_0 a0_1 a0_2 t211 _ A3.out).mono ?_);rintro e w51 ⟨rfl,hb⟩;refine⟨_,rfl,?_⟩;replace BK209:=zq.mk (zl (g:=gb209) (o:=.cells #[.int .i64 a0_0,.int .i64 a0_1,.string a0_2] 23 (0,0)) (up BK209.out) hb);replace BK210:=zq.mk (zl (g:=gb210) (o:=.cells #[.int .i64 a1_0,.int .i64 a1_1,.string a1_2] 23 (0,0)) (up BK210.out) hb);replace HB:=zq.mk (zc bw hb);(try clear hb);(try clear hb2);(try clear hk);(try clear hi);obtain ⟨hcz52_0,hcz52_1,hcz52_2,hfz52_0,hfz52_1,hfz52_2⟩:=zd BK210.out)|((with_reducible refine zo (f:=45) rfl ?_);refine qo (some 14) rfl rfl Tryd.func45 (by kernel_rfl) rfl #[.agg #[.int .i64 a1_0,.int .i64 a1_1,.string a1_2]] rfl gs ?_;(with_reducible refine(zv.calls k a1_0 a1_1 a1_2 t212 _ A5.out).mono ?_);rintro e w53 ⟨rfl,hb⟩;refine⟨_,rfl,?_⟩;replace BK209:=zq.mk (zl (g:=gb209) (o:=.cells #[.int .i64 a0_0,.int .i64 a0_1,.string a0_2] 23 (0,0)) (up BK209.out) hb);replace BK210:=zq.mk (zl (g:=gb210) (o:=.cells #[.int .i64 a1_0,.int .i64 a1_1,.string a1_2] 23 (0,0)) (up BK210.out) hb);replace HB:=zq.mk (zc bw hb);(try clear hb);(try clear hb2);(try clear hk);(try clear hi)))
  go_ret2
  exact⟨by first|rfl|(simp [zk,zx] <;> rfl)|(simp [*,zk,zx] <;> rfl),bw⟩
 rw [if_neg c4] at H
 have c4b0:(t211 == 0)=false:=beq_eq_false_iff_ne.mpr c4
 have c4b1:(t211 != 0)=true:=bne_iff_ne.mpr c4
 simp only [Option.some.injEq,Prod.mk.injEq] at H
 obtain ⟨rfl,rfl⟩:=H
 go_enter Tryd.func75,Tryd.ntmps75
 go_wp2_with (first|((with_reducible refine qc (N:=2) rfl ?_);refine qn ?hg (N:=2) ?hd (cs:=#[.int .i64 a0_0,.int .i64 a0_1,.string a0_2]) (t:=23) ?hr ?_;(case hd=>rfl);(case hg=>rfl);(case hr=>first|(go_simp;done)|(go_simp;rfl));intro gb209 hg w54 hbox hb;have BK209:=zq.mk (hbox);have GW209:=zq.mk ((by rw [hg];exact(zw bw):w.heap.size≤gb209));have GE209:=zq.mk ((by rw [hg];exact(zw bw):w.heap.size≤gb209));replace HB:=zq.mk (zc bw hb);clear hb hbox hg)|((with_reducible refine qc (N:=3) rfl ?_);refine qn ?hg (N:=3) ?hd (cs:=#[.int .i64 a1_0,.int .i64 a1_1,.string a1_2]) (t:=23) ?hr ?_;(case hd=>rfl);(case hg=>rfl);(case hr=>first|(go_simp;done)|(go_simp;rfl));intro gb210 hg w55 hbox hb;have BK210:=zq.mk (hbox);have GW210:=zq.mk ((by rw [hg];exact(zw bw):w.heap.size≤gb210));have GE210:=zq.mk ((by rw [hg];exact(zw bw):w.heap.size≤gb210));replace HB:=zq.mk (zc bw hb);have NB209_210:=zq.mk ((by rw [hg];exact Nat.ne_of_lt (qd (g:=gb209) (o:=.cells #[.int .i64 a0_0,.int .i64 a0_1,.string a0_2] 23 (0,0)) (up BK209.out)):gb209≠gb210));have NB210_209:=zq.mk ((by rw [hg];exact Nat.ne_of_gt (qd (g:=gb209) (o:=.cells #[.int .i64 a0_0,.int .i64 a0_1,.string a0_2] 23 (0,0)) (up BK209.out)):gb210≠gb209));replace BK209:=zq.mk (zl (g:=gb209) (o:=.cells #[.int .i64 a0_0,.int .i64 a0_1,.string a0_2] 23 (0,0)) (up BK209.out) hb);clear hb hbox hg;have hnb56:=NB209_210.out;have hnc56:=NB210_209.out;obtain ⟨hcz57_0,hcz57_1,hcz57_2,hfz57_0,hfz57_1,hfz57_2⟩:=zd BK209.out)|((with_reducible refine zo (f:=45) rfl ?_);refine qo (some 9) rfl rfl Tryd.func45 (by kernel_rfl) rfl #[.agg #[.int .i64 a0_0,.int .i64 a0_1,.string a0_2]] rfl gs ?_;(with_reducible refine(zv.calls k a0_0 a0_1 a0_2 t211 _ A3.out).mono ?_);rintro e w58 ⟨rfl,hb⟩;refine⟨_,rfl,?_⟩;replace BK209:=zq.mk (zl (g:=gb209) (o:=.cells #[.int .i64 a0_0,.int .i64 a0_1,.string a0_2] 23 (0,0)) (up BK209.out) hb);replace BK210:=zq.mk (zl (g:=gb210) (o:=.cells #[.int .i64 a1_0,.int .i64 a1_1,.string a1_2] 23 (0,0)) (up BK210.out) hb);replace HB:=zq.mk (zc bw hb);(try clear hb);(try clear hb2);(try clear hk);(try clear hi)))
 go_ret2
 exact⟨by first|rfl|(simp [zk,zx] <;> rfl)|(simp [*,zk,zx] <;> rfl),bw⟩

end Go.Proofs.YtkgllmjlhaimcaaDoor.PEvalEvals
