-- Written by wip/pp of this repo (over the kit's print, with additions of this session); Lean checks every line.
import Derived.Test.YthhejedfjgikdaaDoorPRowReadsx8
import Derived.Test.YthhejedfjgikdaaDoorPRowReadsx9
namespace Go.Proofs.YthhejedfjgikdaaDoor.PRowReads
open Go.RowKit Go.Proofs.YthhejedfjgikdaaDoorW.PrintWords Go.Proofs.YthhejedfjgikdaaDoorW.PrintLast Go.Proofs.YthhejedfjgikdaaDoorW.PrintMore
attribute [local go_sem] zjo zjm zjw zjv zja zq9 zjn zjl   -- for this text's walks alone
set_option linter.unusedVariables false
set_option linter.unusedSimpArgs false

/-! ### zqc: function 127 -/
def zqc.l0:Nat→List Int→List Int→Int→Option (Int × Int × ByteArray × Int × Int)
 | 0,_,_,_=>none
 | k+1,x4,x1000,x1001=>(zqj.f x1000 x1001).bind fun bt203=>(if bt203.2.1=true then(if bt203.1=0 then((zqj.f x1000 bt203.2.2).bind fun bt209=>(if bt209.2.1=true then(if bt209.1=255 then(if x4.length<140737488355328 then(zqc.l0 k (x4 ++ [0]) x1000 bt209.2.2) else (none)) else (if bt209.1=1 then(if(x4.length:Int) > 40 then(some (0,0,(⟨#[]⟩:ByteArray),1,bt209.2.2)) else ((qk.f x4).bind fun t215=>(if t215=true then(some (3,0,strOfNums x4,0,bt209.2.2)) else (some (0,0,(⟨#[]⟩:ByteArray),4,bt209.2.2))))) else (some (0,0,(⟨#[]⟩:ByteArray),4,bt209.2.2)))) else (some (0,0,(⟨#[]⟩:ByteArray),5,bt209.2.2)))) else (if x4.length<140737488355328 then(zqc.l0 k (x4 ++ [bt203.1]) x1000 bt203.2.2) else (none))) else (some (0,0,(⟨#[]⟩:ByteArray),5,bt203.2.2)))
def zqc.f (k:Nat) (s0_0:List Int) (s0_1:Int):Option (Int × Int × ByteArray × Int × Int):=zqc.l0 k ([]:List Int) s0_0 s0_1
theorem zqc.mono_l:∀ k,(∀ y0 y1 y2,LeO (zqc.l0 k y0 y1 y2) (zqc.l0 (k+1) y0 y1 y2))
 | 0=>fun _ _ _ r h=>by simp [zqc.l0] at h
 | k+1=>by
  have ih0:=zqc.mono_l k
  intro y0 y1 y2
  unfold zqc.l0
  repeat' first
  | (with_reducible first|exact ih0 _ _ _|exact LeO.refl _|exact LeO.none _|refine LeO.ite ?_ ?_|refine LeO.bind ?_ (fun _=>?_))
  | exact ih0 _ _ _
  | exact LeO.none _
  | refine LeO.ite ?_ ?_
  | refine LeO.bind ?_ (fun _=>?_)
theorem zqc.mono:∀ a0 a1 k,LeO (zqc.f k a0 a1) (zqc.f (k+1) a0 a1):=by
 intro a0 a1 k
 have ih0:=zqc.mono_l k
 unfold zqc.f
 repeat' first
   | (with_reducible first|exact ih0 _ _ _|exact LeO.refl _|exact LeO.none _|refine LeO.ite ?_ ?_|refine LeO.bind ?_ (fun _=>?_))
   | exact ih0 _ _ _
   | exact LeO.none _
   | refine LeO.ite ?_ ?_
   | refine LeO.bind ?_ (fun _=>?_)
set_option maxHeartbeats 8000000 in
set_option maxRecDepth 100000 in
theorem zqc.calls (k:Nat) (g:Nat) (s0_0:List Int) (s0_1:Int) (r1:Int) (r2:Int) (r3:ByteArray) (r4:Int) (r5:Int) (w0 w:World) (hI:zm w0 w g s0_0 s0_1) (hB:Below w0.heap.size w0 w) (hL:LD w0) (h:zqc.f k s0_0 s0_1=some (r1,r2,r3,r4,r5)) :
  Calls Tryd.prog 127 #[.pointer (some ⟨g,0,none⟩)] w fun e w'=>e = .returned (.tuple #[.agg #[.int .i64 r1,.int .i64 r2,.string r3],.int .i64 r4])∧zm w0 w' g s0_0 r5∧Below w0.heap.size w0 w'∧qn w w' g none:=by
 have hu38:=Tryd.underlying38
 have HLD:=zq.mk hL
 clear hL
 have HI0:=zq.mk hI
 have HK:=zq.mk (qn.refl w g none)
 have HL:=zq.mk hB.size
 clear hI
 have HW0:=zq.mk hB.size
 have HB:=zq.mk hB
 clear hB
 have H:(zqc.l0 k ([]:List Int) s0_0 s0_1)=some (r1,r2,r3,r4,r5):=h
 clear h
 have H':=zq.mk H
 clear H
 go_enter Tryd.func127,Tryd.ntmps127
 go_wp2_with (first|((with_reducible refine qr (N:=2) rfl ?_);refine qm ?hg (N:=2) ?hd (cs:=#[.int .i64 0,.int .i64 0,.string (⟨#[]⟩:ByteArray)]) (t:=38) ?hr ?_;(case hd=>rfl);(case hg=>rfl);(case hr=>first|(go_simp;done)|(go_simp;rfl));intro gb202 hg w2 hbox hb;replace HB:=zq.mk (zn (by repeat(first|(with_reducible first|exact HB.out|apply zl|apply zr|apply qx|refine qb ?_ (zm.ge HI0.out))|exact HB.out)) hb);have BK202:=zq.mk (hbox);have GW202:=zq.mk ((by rw [hg];exact(zxd (w:=w) (g:=g) (row:=none) (by repeat(first|(with_reducible first|exact HK.out|apply qn.set_|apply qe|apply zqe|apply qi)|exact HK.out))):w.heap.size≤gb202));have GE202:=zq.mk ((Nat.le_trans HW0.out (by rw [hg];exact(zxd (w:=w) (g:=g) (row:=none) (by repeat(first|(with_reducible first|exact HK.out|apply qn.set_|apply qe|apply zqe|apply qi)|exact HK.out))):w.heap.size≤gb202):w0.heap.size≤gb202));replace HK:=zq.mk (qn.trans (by repeat(first|(with_reducible first|exact HK.out|apply qn.set_|apply qe|apply zqe|apply qi)|exact HK.out)) (qn.of_below hb g none) (.inl rfl));have NB0_202:=zq.mk ((by rw [hg];exact Nat.ne_of_lt (zm.lt (show zm w0 _ g s0_0 s0_1 from by repeat(first|(with_reducible first|exact HI0.out|apply zm.alloc|apply zm.drewN|apply zm.drew|apply zm.zjc)|exact HI0.out))):g≠gb202));have NB202_0:=zq.mk ((by rw [hg];exact Nat.ne_of_gt (zm.lt (show zm w0 _ g s0_0 s0_1 from by repeat(first|(with_reducible first|exact HI0.out|apply zm.alloc|apply zm.drewN|apply zm.drew|apply zm.zjc)|exact HI0.out))):gb202≠g));replace HI0:=zq.mk (zm.below (by repeat(first|(with_reducible first|exact HI0.out|apply zm.alloc|apply zm.drewN|apply zm.drew|apply zm.zjc)|exact HI0.out)) hb);clear hb hbox hg))
 go_loopg [4] k (fun kq v4 w' => ∃ (x4_1:List Int) (x1001_1:Int) (x203000_1:Int) (x203001_1:Int) (x203002_1:ByteArray),zq (zqc.l0 kq x4_1 s0_0 x1001_1=some (r1,r2,r3,r4,r5))∧zq (kq≤k)∧zq (Kd.R (Kd.int .u8) 5 w' w.heap.size (fun _=>True) v4 x4_1)∧zq (w'.heap[gb202]? = some (.cells #[.int .i64 x203000_1,.int .i64 x203001_1,.string x203002_1] 38 (0,0)))∧zq (zm w0 w' g s0_0 x1001_1)∧zq (qn w w' g none)∧zq (Below w0.heap.size w0 w'))
 case atStart=>exact⟨(([]:List Int)),(s0_1),(0),(0),((⟨#[]⟩:ByteArray)),H',⟨Nat.le_refl _⟩,⟨by first|exact Kd.zxf _ _ _ _ _|exact Kd.zx4 _ _ _ _ _|exact Kd.zxl _ _ _ _ _|exact Kd.zx3 _ _ _ _ _|exact Kd.zx2 _ _ _ _ _⟩,⟨by(with_reducible repeat(first|refine zz ?_ _|refine zk ?_|refine zj ?_ _));exact BK202.out⟩,⟨by repeat(first|(with_reducible first|exact HI0.out|apply zm.alloc|apply zm.drewN|apply zm.drew|apply zm.zjc|refine zm.far ?_ NB0_202.out _)|exact HI0.out)⟩,⟨by repeat(first|(with_reducible first|exact HK.out|apply qn.set_|apply qe|apply zqe|apply qi|refine zqt ?_ GW202.out _)|exact HK.out)⟩,⟨by repeat(first|(with_reducible first|exact HB.out|apply zl|apply zr|apply qx|refine qb ?_ (zm.ge HI0.out)|refine qb ?_ GE202.out)|exact HB.out)⟩⟩
 case round=>
  clear H'
  obtain ⟨x4_1,x1001_1,x203000_1,x203001_1,x203002_1,HA,HK1,HO_4,BK202,HI0,HK,HB⟩:=hrel
  cases gk with
  | zero=>exact absurd HA.out (by simp [zqc.l0])
  | succ k1=>
   have H:=HA.out
   clear HA
   simp only [zqc.l0] at H
   replace H:=Option.bind_eq_some_iff.mp H
   obtain ⟨⟨t203,t204,t205⟩,A30,H⟩:=H
   replace H:(if t204=true then(if t203=0 then((zqj.f s0_0 t205).bind fun bt209=>(if bt209.2.1=true then(if bt209.1=255 then(if x4_1.length<140737488355328 then(zqc.l0 k1 (x4_1 ++ [0]) s0_0 bt209.2.2) else (none)) else (if bt209.1=1 then(if(x4_1.length:Int) > 40 then(some (0,0,(⟨#[]⟩:ByteArray),1,bt209.2.2)) else ((qk.f x4_1).bind fun t215=>(if t215=true then(some (3,0,strOfNums x4_1,0,bt209.2.2)) else (some (0,0,(⟨#[]⟩:ByteArray),4,bt209.2.2))))) else (some (0,0,(⟨#[]⟩:ByteArray),4,bt209.2.2)))) else (some (0,0,(⟨#[]⟩:ByteArray),5,bt209.2.2)))) else (if x4_1.length<140737488355328 then(zqc.l0 k1 (x4_1 ++ [t203]) s0_0 t205) else (none))) else (some (0,0,(⟨#[]⟩:ByteArray),5,t205)))=some (r1,r2,r3,r4,r5):=H
   have A3:=zq.mk A30
   clear A30
   by_cases c4:t204=true
   ·subst c4
    rw [if_pos rfl] at H
    by_cases c5:t203=0
    ·rw [if_pos c5] at H
     have c5b0:(t203 == 0)=true:=beq_iff_eq.mpr c5
     have c5b1:(t203 != 0)=false:=bne_eq_false_iff_eq.mpr c5
     clear c5
     replace H:=Option.bind_eq_some_iff.mp H
     obtain ⟨⟨t209,t210,t211⟩,A60,H⟩:=H
     replace H:(if t210=true then(if t209=255 then(if x4_1.length<140737488355328 then(zqc.l0 k1 (x4_1 ++ [0]) s0_0 t211) else (none)) else (if t209=1 then(if(x4_1.length:Int) > 40 then(some (0,0,(⟨#[]⟩:ByteArray),1,t211)) else ((qk.f x4_1).bind fun t215=>(if t215=true then(some (3,0,strOfNums x4_1,0,t211)) else (some (0,0,(⟨#[]⟩:ByteArray),4,t211))))) else (some (0,0,(⟨#[]⟩:ByteArray),4,t211)))) else (some (0,0,(⟨#[]⟩:ByteArray),5,t211)))=some (r1,r2,r3,r4,r5):=H
     have A6:=zq.mk A60
     clear A60
     by_cases c7:t210=true
     ·subst c7
      rw [if_pos rfl] at H
      by_cases c8:t209=255
      ·rw [if_pos c8] at H
       have c8b0:(t209 == 255)=true:=beq_iff_eq.mpr c8
       have c8b1:(t209 != 255)=false:=bne_eq_false_iff_eq.mpr c8
       clear c8
       by_cases c9:x4_1.length<140737488355328
       ·rw [if_pos c9] at H
        have LMc9:=zq.mk c9
        clear c9
        obtain ⟨y212,hy212⟩:∃ y_:List Int,y_=(x4_1 ++ [0]):=⟨_,rfl⟩
        replace H:(zqc.l0 k1 y212 s0_0 t211)=some (r1,r2,r3,r4,r5):=by first|(rw [hy212];with_reducible exact H)|(have H2_:=(Option.bind_some _ _).symm.trans H;rw [hy212];with_reducible exact H2_)|(have H2_:=(Option.bind_some _ _).symm.trans H;with_reducible exact H2_)|with_reducible exact H|(rw [hy212];exact H)|exact H
        have Ny212:=zq.mk hy212
        clear hy212
        have H':=zq.mk H
        clear H
        go_wp2_with (first|((with_reducible refine qh (f:=125) rfl ?_);refine zqn (some 11) rfl rfl Tryd.func125 (by kernel_rfl) rfl #[.pointer (some ⟨g,0,none⟩)] rfl gs ?_;(with_reducible refine(zqj.calls g s0_0 x1001_1 t203 true t205 w0 _ ?side1 ?side2 A3.out).mono ?_);(case side1=>repeat(first|(with_reducible first|exact HI0.out|apply zm.alloc|apply zm.drewN|apply zm.drew|apply zm.zjc|refine zm.far ?_ NB0_202.out _)|exact HI0.out));(case side2=>repeat(first|(with_reducible first|exact HB.out|apply zl|apply zr|apply qx|refine qb ?_ (zm.ge HI0.out)|refine qb ?_ GE202.out)|exact HB.out));rintro e w10 ⟨rfl,hi,hb,hk⟩;refine⟨_,rfl,?_⟩;replace HO_4:=zq.mk (Kd.zqy (Kd.zkc (zm.apart (show zm w0 _ g s0_0 x1001_1 from by repeat(first|(with_reducible first|exact HI0.out|apply zm.alloc|apply zm.drewN|apply zm.drew|apply zm.zjc|refine zm.far ?_ NB0_202.out _)|exact HI0.out)) (Kd.ru HO_4.out) (by decide)) hk (fun _ h=>h.2)) (fun _ h=>h.1));replace BK202:=zq.mk (qn.blk hk (g':=gb202) (o:=.cells #[.int .i64 x203000_1,.int .i64 x203001_1,.string x203002_1] 38 (0,0)) (up BK202.out) NB202_0.out (by simp));replace HK:=zq.mk (qn.trans (by repeat(first|(with_reducible first|exact HK.out|apply qn.set_|apply qe|apply zqe|apply qi|refine zqt ?_ GW202.out _)|exact HK.out)) hk (.inl rfl));replace HB:=zq.mk (hb);replace HI0:=zq.mk (hi);(try clear hb);(try clear hb2);(try clear hk);(try clear hi))|((with_reducible refine qh (f:=125) rfl ?_);refine zqn (some 25) rfl rfl Tryd.func125 (by kernel_rfl) rfl #[.pointer (some ⟨g,0,none⟩)] rfl gs ?_;(with_reducible refine(zqj.calls g s0_0 t205 t209 true t211 w0 _ ?side1 ?side2 A6.out).mono ?_);(case side1=>repeat(first|(with_reducible first|exact HI0.out|apply zm.alloc|apply zm.drewN|apply zm.drew|apply zm.zjc|refine zm.far ?_ NB0_202.out _)|exact HI0.out));(case side2=>repeat(first|(with_reducible first|exact HB.out|apply zl|apply zr|apply qx|refine qb ?_ (zm.ge HI0.out)|refine qb ?_ GE202.out)|exact HB.out));rintro e w11 ⟨rfl,hi,hb,hk⟩;refine⟨_,rfl,?_⟩;replace HO_4:=zq.mk (Kd.zqy (Kd.zkc (zm.apart (show zm w0 _ g s0_0 t205 from by repeat(first|(with_reducible first|exact HI0.out|apply zm.alloc|apply zm.drewN|apply zm.drew|apply zm.zjc|refine zm.far ?_ NB0_202.out _)|exact HI0.out)) (Kd.ru HO_4.out) (by decide)) hk (fun _ h=>h.2)) (fun _ h=>h.1));replace BK202:=zq.mk (qn.blk hk (g':=gb202) (o:=.cells #[.int .i64 x203000_1,.int .i64 x203001_1,.string x203002_1] 38 (0,0)) (up BK202.out) NB202_0.out (by simp));replace HK:=zq.mk (qn.trans (by repeat(first|(with_reducible first|exact HK.out|apply qn.set_|apply qe|apply zqe|apply qi|refine zqt ?_ GW202.out _)|exact HK.out)) hk (.inl rfl));replace HB:=zq.mk (hb);replace HI0:=zq.mk (hi);(try clear hb);(try clear hb2);(try clear hk);(try clear hi))|((with_reducible refine zj7 (b:=.append) (xs:=#[.tmp 35,.tmp 36]) rfl ?_);at_builtin;refine Kd.zjj (Kd.int .u8) w.heap.size rfl (.tmp 35) (.tmp 36) 30 5 (.int .u8 0) 1 rfl Tryd.underlying30 zxr rfl (by decide) (by omega) u4 x4_1 0 [.int .u8 0] (fun _=>True) (fun _=>False) rfl rfl ?aP (fun _ hk=>hk.elim) ?aF ?aO (Below.refl _ _) ?aS ?aL ?_;(case aP=>exact rfl);(case aF=>exact(fun _ _=>trivial));(case aO=>exact(Kd.ru HO_4.out));(case aS=>exact(zxd (w:=w) (g:=g) (row:=none) (by repeat(first|(with_reducible first|exact HK.out|apply qn.set_|apply qe|apply zqe|apply qi|refine zqt ?_ GW202.out _)|exact HK.out))));(case aL=>have:=LMc9.out;omega);intro v213 w12 ho hb hg hat;rw [← Ny212.out] at ho;replace BK202:=zq.mk (zxk (g:=gb202) (o:=.cells #[.int .i64 x203000_1,.int .i64 x203001_1,.string x203002_1] 38 (0,0)) (up BK202.out) hg (Kd.R_ne HO_4.out BK202.out (by decide)));replace HB:=zq.mk (zvs (by repeat(first|(with_reducible first|exact HB.out|apply zl|apply zr|apply qx|refine qb ?_ (zm.ge HI0.out)|refine qb ?_ GE202.out)|exact HB.out)) HL.out hb);replace HI0:=zq.mk (zm.grown (by repeat(first|(with_reducible first|exact HI0.out|apply zm.alloc|apply zm.drewN|apply zm.drew|apply zm.zjc|refine zm.far ?_ NB0_202.out _)|exact HI0.out)) hg (zm.own_ne HI0.out HO_4.out (by decide)));replace HK:=zq.mk (qn.trans (by repeat(first|(with_reducible first|exact HK.out|apply qn.set_|apply qe|apply zqe|apply qi|refine zqt ?_ GW202.out _)|exact HK.out)) (qn.zvw hg g) (Kd.R_base2 HO_4.out));have HO214:=zq.mk (ho);clear HO_4 ho hb hg hat))
        go_roundg k1
        case measure=>have:=HK1.out;omega
        case rel=>exact⟨(y212),(t211),(x203000_1),(x203001_1),(x203002_1),H',⟨by have:=HK1.out;omega⟩,⟨by(with_reducible repeat(first|apply Kd.zq5|apply Kd.zq7|apply Kd.zjf));exact HO214.out⟩,⟨by(with_reducible repeat(first|refine zz ?_ _|refine zk ?_|refine zj ?_ _));exact BK202.out⟩,⟨by repeat(first|(with_reducible first|exact HI0.out|apply zm.alloc|apply zm.drewN|apply zm.drew|apply zm.zjc|refine zm.far ?_ NB0_202.out _)|exact HI0.out)⟩,⟨by repeat(first|(with_reducible first|exact HK.out|apply qn.set_|apply qe|apply zqe|apply qi|refine zqt ?_ GW202.out _)|exact HK.out)⟩,⟨by repeat(first|(with_reducible first|exact HB.out|apply zl|apply zr|apply qx|refine qb ?_ (zm.ge HI0.out)|refine qb ?_ GE202.out)|exact HB.out)⟩⟩
       rw [if_neg c9] at H
       exact absurd H (by simp)
      rw [if_neg c8] at H
      have c8b0:(t209 == 255)=false:=beq_eq_false_iff_ne.mpr c8
      have c8b1:(t209 != 255)=true:=bne_iff_ne.mpr c8
      by_cases c13:t209=1
      ·rw [if_pos c13] at H
       have c13b0:(t209 == 1)=true:=beq_iff_eq.mpr c13
       have c13b1:(t209 != 1)=false:=bne_eq_false_iff_eq.mpr c13
       clear c13
       by_cases c14:(x4_1.length:Int) > 40
       ·rw [if_pos c14] at H
        have c14b0:=decide_eq_true c14
        have c14b1:decide (40<x4_1.length)=true:=decide_eq_true (by omega)
        clear c14
        simp only [Option.some.injEq,Prod.mk.injEq] at H
        obtain ⟨rfl,rfl,rfl,rfl,rfl⟩:=H
        go_wp2_with (first|((with_reducible refine qh (f:=125) rfl ?_);refine zqn (some 11) rfl rfl Tryd.func125 (by kernel_rfl) rfl #[.pointer (some ⟨g,0,none⟩)] rfl gs ?_;(with_reducible refine(zqj.calls g s0_0 x1001_1 t203 true t205 w0 _ ?side1 ?side2 A3.out).mono ?_);(case side1=>repeat(first|(with_reducible first|exact HI0.out|apply zm.alloc|apply zm.drewN|apply zm.drew|apply zm.zjc|refine zm.far ?_ NB0_202.out _)|exact HI0.out));(case side2=>repeat(first|(with_reducible first|exact HB.out|apply zl|apply zr|apply qx|refine qb ?_ (zm.ge HI0.out)|refine qb ?_ GE202.out)|exact HB.out));rintro e w15 ⟨rfl,hi,hb,hk⟩;refine⟨_,rfl,?_⟩;replace HO_4:=zq.mk (Kd.zqy (Kd.zkc (zm.apart (show zm w0 _ g s0_0 x1001_1 from by repeat(first|(with_reducible first|exact HI0.out|apply zm.alloc|apply zm.drewN|apply zm.drew|apply zm.zjc|refine zm.far ?_ NB0_202.out _)|exact HI0.out)) (Kd.ru HO_4.out) (by decide)) hk (fun _ h=>h.2)) (fun _ h=>h.1));replace BK202:=zq.mk (qn.blk hk (g':=gb202) (o:=.cells #[.int .i64 x203000_1,.int .i64 x203001_1,.string x203002_1] 38 (0,0)) (up BK202.out) NB202_0.out (by simp));replace HK:=zq.mk (qn.trans (by repeat(first|(with_reducible first|exact HK.out|apply qn.set_|apply qe|apply zqe|apply qi|refine zqt ?_ GW202.out _)|exact HK.out)) hk (.inl rfl));replace HB:=zq.mk (hb);replace HI0:=zq.mk (hi);(try clear hb);(try clear hb2);(try clear hk);(try clear hi))|((with_reducible refine qh (f:=125) rfl ?_);refine zqn (some 25) rfl rfl Tryd.func125 (by kernel_rfl) rfl #[.pointer (some ⟨g,0,none⟩)] rfl gs ?_;(with_reducible refine(zqj.calls g s0_0 t205 t209 true t211 w0 _ ?side1 ?side2 A6.out).mono ?_);(case side1=>repeat(first|(with_reducible first|exact HI0.out|apply zm.alloc|apply zm.drewN|apply zm.drew|apply zm.zjc|refine zm.far ?_ NB0_202.out _)|exact HI0.out));(case side2=>repeat(first|(with_reducible first|exact HB.out|apply zl|apply zr|apply qx|refine qb ?_ (zm.ge HI0.out)|refine qb ?_ GE202.out)|exact HB.out));rintro e w16 ⟨rfl,hi,hb,hk⟩;refine⟨_,rfl,?_⟩;replace HO_4:=zq.mk (Kd.zqy (Kd.zkc (zm.apart (show zm w0 _ g s0_0 t205 from by repeat(first|(with_reducible first|exact HI0.out|apply zm.alloc|apply zm.drewN|apply zm.drew|apply zm.zjc|refine zm.far ?_ NB0_202.out _)|exact HI0.out)) (Kd.ru HO_4.out) (by decide)) hk (fun _ h=>h.2)) (fun _ h=>h.1));replace BK202:=zq.mk (qn.blk hk (g':=gb202) (o:=.cells #[.int .i64 x203000_1,.int .i64 x203001_1,.string x203002_1] 38 (0,0)) (up BK202.out) NB202_0.out (by simp));replace HK:=zq.mk (qn.trans (by repeat(first|(with_reducible first|exact HK.out|apply qn.set_|apply qe|apply zqe|apply qi|refine zqt ?_ GW202.out _)|exact HK.out)) hk (.inl rfl));replace HB:=zq.mk (hb);replace HI0:=zq.mk (hi);(try clear hb);(try clear hb2);(try clear hk);(try clear hi);obtain ⟨Ao17,co17,eo17⟩:=Kd.zje HO_4.out;subst eo17;have hnb18:=NB202_0.out;have hnc18:=NB0_202.out;obtain ⟨hcz19_0,hcz19_1,hcz19_2,hfz19_0,hfz19_1,hfz19_2⟩:=qd BK202.out))
        refine bodyPost_ret (zjp rfl _ _ gb202 38 #[.int .i64 0,.int .i64 0,.string (⟨#[]⟩:ByteArray)] (0,0) _ rfl (by(with_reducible repeat(first|refine zz ?_ _|refine zk ?_|refine zj ?_ _));refine qw (cs:=#[.int .i64 0,.int .i64 0,.string x203002_1]) ?_ 2 _ rfl;(with_reducible repeat(first|refine zz ?_ _|refine zk ?_|refine zj ?_ _));refine qw (cs:=#[.int .i64 0,.int .i64 x203001_1,.string x203002_1]) ?_ 1 _ rfl;(with_reducible repeat(first|refine zz ?_ _|refine zk ?_|refine zj ?_ _));refine qw (cs:=#[.int .i64 x203000_1,.int .i64 x203001_1,.string x203002_1]) ?_ 0 _ rfl;(with_reducible repeat(first|refine zz ?_ _|refine zk ?_|refine zj ?_ _));exact BK202.out) Tryd.underlying38 rfl (by kernel_rfl)) rfl ?_
        exact⟨by first|rfl|(simp [zg,zy] <;> rfl)|(simp [*,zg,zy] <;> rfl),by repeat(first|(with_reducible first|exact HI0.out|apply zm.alloc|apply zm.drewN|apply zm.drew|apply zm.zjc|refine zm.far ?_ NB0_202.out _)|exact HI0.out),by repeat(first|(with_reducible first|exact HB.out|apply zl|apply zr|apply qx|refine qb ?_ (zm.ge HI0.out)|refine qb ?_ GE202.out)|exact HB.out),by repeat(first|(with_reducible first|exact HK.out|apply qn.set_|apply qe|apply zqe|apply qi|refine zqt ?_ GW202.out _)|exact HK.out)⟩
       rw [if_neg c14] at H
       have c14b0:=decide_eq_false c14
       have c14b1:decide (40<x4_1.length)=false:=decide_eq_false (by omega)
       clear c14
       replace H:=Option.bind_eq_some_iff.mp H
       obtain ⟨t215,A200,H⟩:=H
       replace H:(if t215=true then(some (3,0,strOfNums x4_1,0,t211)) else (some (0,0,(⟨#[]⟩:ByteArray),4,t211)))=some (r1,r2,r3,r4,r5):=H
       have A20:=zq.mk A200
       clear A200
       by_cases c21:t215=true
       ·subst c21
        rw [if_pos rfl] at H
        simp only [Option.some.injEq,Prod.mk.injEq] at H
        obtain ⟨rfl,rfl,rfl,rfl,rfl⟩:=H
        go_wp2_with (first|((with_reducible refine qh (f:=125) rfl ?_);refine zqn (some 11) rfl rfl Tryd.func125 (by kernel_rfl) rfl #[.pointer (some ⟨g,0,none⟩)] rfl gs ?_;(with_reducible refine(zqj.calls g s0_0 x1001_1 t203 true t205 w0 _ ?side1 ?side2 A3.out).mono ?_);(case side1=>repeat(first|(with_reducible first|exact HI0.out|apply zm.alloc|apply zm.drewN|apply zm.drew|apply zm.zjc|refine zm.far ?_ NB0_202.out _)|exact HI0.out));(case side2=>repeat(first|(with_reducible first|exact HB.out|apply zl|apply zr|apply qx|refine qb ?_ (zm.ge HI0.out)|refine qb ?_ GE202.out)|exact HB.out));rintro e w22 ⟨rfl,hi,hb,hk⟩;refine⟨_,rfl,?_⟩;replace HO_4:=zq.mk (Kd.zqy (Kd.zkc (zm.apart (show zm w0 _ g s0_0 x1001_1 from by repeat(first|(with_reducible first|exact HI0.out|apply zm.alloc|apply zm.drewN|apply zm.drew|apply zm.zjc|refine zm.far ?_ NB0_202.out _)|exact HI0.out)) (Kd.ru HO_4.out) (by decide)) hk (fun _ h=>h.2)) (fun _ h=>h.1));replace BK202:=zq.mk (qn.blk hk (g':=gb202) (o:=.cells #[.int .i64 x203000_1,.int .i64 x203001_1,.string x203002_1] 38 (0,0)) (up BK202.out) NB202_0.out (by simp));replace HK:=zq.mk (qn.trans (by repeat(first|(with_reducible first|exact HK.out|apply qn.set_|apply qe|apply zqe|apply qi|refine zqt ?_ GW202.out _)|exact HK.out)) hk (.inl rfl));replace HB:=zq.mk (hb);replace HI0:=zq.mk (hi);(try clear hb);(try clear hb2);(try clear hk);(try clear hi))|((with_reducible refine qh (f:=125) rfl ?_);refine zqn (some 25) rfl rfl Tryd.func125 (by kernel_rfl) rfl #[.pointer (some ⟨g,0,none⟩)] rfl gs ?_;(with_reducible refine(zqj.calls g s0_0 t205 t209 true t211 w0 _ ?side1 ?side2 A6.out).mono ?_);(case side1=>repeat(first|(with_reducible first|exact HI0.out|apply zm.alloc|apply zm.drewN|apply zm.drew|apply zm.zjc|refine zm.far ?_ NB0_202.out _)|exact HI0.out));(case side2=>repeat(first|(with_reducible first|exact HB.out|apply zl|apply zr|apply qx|refine qb ?_ (zm.ge HI0.out)|refine qb ?_ GE202.out)|exact HB.out));rintro e w23 ⟨rfl,hi,hb,hk⟩;refine⟨_,rfl,?_⟩;replace HO_4:=zq.mk (Kd.zqy (Kd.zkc (zm.apart (show zm w0 _ g s0_0 t205 from by repeat(first|(with_reducible first|exact HI0.out|apply zm.alloc|apply zm.drewN|apply zm.drew|apply zm.zjc|refine zm.far ?_ NB0_202.out _)|exact HI0.out)) (Kd.ru HO_4.out) (by decide)) hk (fun _ h=>h.2)) (fun _ h=>h.1));replace BK202:=zq.mk (qn.blk hk (g':=gb202) (o:=.cells #[.int .i64 x203000_1,.int .i64 x203001_1,.string x203002_1] 38 (0,0)) (up BK202.out) NB202_0.out (by simp));replace HK:=zq.mk (qn.trans (by repeat(first|(with_reducible first|exact HK.out|apply qn.set_|apply qe|apply zqe|apply qi|refine zqt ?_ GW202.out _)|exact HK.out)) hk (.inl rfl));replace HB:=zq.mk (hb);replace HI0:=zq.mk (hi);(try clear hb);(try clear hb2);(try clear hk);(try clear hi);obtain ⟨Ao24,co24,eo24⟩:=Kd.zje HO_4.out;subst eo24)|((with_reducible refine qh (f:=150) rfl ?_);refine zqn (some 47) rfl rfl Tryd.func150 (by kernel_rfl) rfl #[.slice Ao24 x4_1.length co24] rfl gs ?_;(with_reducible refine(qk.calls _ _ x4_1 true _ ?side1 ?side2 ?side3 A20.out).mono ?_);(case side1=>exact Kd.cu (Kd.zqk HO_4.out).2.2);(case side2=>exact(Kd.zqk HO_4.out).2.1);(case side3=>exact LD.below HLD.out (by first|(with_reducible exact Below.refl _ _)|((repeat(first|(with_reducible exact Below.refl _ _)|(with_reducible apply zl)|(with_reducible apply zr)|(with_reducible apply qx)));done)|exact(by repeat(first|(with_reducible first|exact HB.out|apply zl|apply zr|apply qx|refine qb ?_ (zm.ge HI0.out)|refine qb ?_ GE202.out)|exact HB.out))));rintro e w25 ⟨rfl,hb⟩;refine⟨_,rfl,?_⟩;replace HO_4:=zq.mk (Kd.zq4 (Kd.ru HO_4.out) hb);replace BK202:=zq.mk (ze (g:=gb202) (o:=.cells #[.int .i64 x203000_1,.int .i64 x203001_1,.string x203002_1] 38 (0,0)) (up BK202.out) hb);replace HK:=zq.mk (qn.trans (by repeat(first|(with_reducible first|exact HK.out|apply qn.set_|apply qe|apply zqe|apply qi|refine zqt ?_ GW202.out _)|exact HK.out)) (qn.of_below hb g none) (.inl rfl));replace HB:=zq.mk (zn (by repeat(first|(with_reducible first|exact HB.out|apply zl|apply zr|apply qx|refine qb ?_ (zm.ge HI0.out)|refine qb ?_ GE202.out)|exact HB.out)) hb);replace HI0:=zq.mk (zm.below (by repeat(first|(with_reducible first|exact HI0.out|apply zm.alloc|apply zm.drewN|apply zm.drew|apply zm.zjc|refine zm.far ?_ NB0_202.out _)|exact HI0.out)) hb);(try clear hb);(try clear hb2);(try clear hk);(try clear hi);have hcv26:=own_string (P:=Tryd.prog) Tryd.underlying30 Tryd.underlying5 Tryd.underlying9 (Kd.own_of_R HO_4.out);have hnb27:=NB202_0.out;have hnc27:=NB0_202.out;obtain ⟨hcz28_0,hcz28_1,hcz28_2,hfz28_0,hfz28_1,hfz28_2⟩:=qd BK202.out))
        refine bodyPost_ret (zjp rfl _ _ gb202 38 #[.int .i64 3,.int .i64 0,.string (strOfNums x4_1)] (0,0) _ rfl (by(with_reducible repeat(first|refine zz ?_ _|refine zk ?_|refine zj ?_ _));refine qw (cs:=#[.int .i64 3,.int .i64 0,.string x203002_1]) ?_ 2 _ rfl;(with_reducible repeat(first|refine zz ?_ _|refine zk ?_|refine zj ?_ _));refine qw (cs:=#[.int .i64 3,.int .i64 x203001_1,.string x203002_1]) ?_ 1 _ rfl;(with_reducible repeat(first|refine zz ?_ _|refine zk ?_|refine zj ?_ _));refine qw (cs:=#[.int .i64 x203000_1,.int .i64 x203001_1,.string x203002_1]) ?_ 0 _ rfl;(with_reducible repeat(first|refine zz ?_ _|refine zk ?_|refine zj ?_ _));exact BK202.out) Tryd.underlying38 rfl (by kernel_rfl)) rfl ?_
        exact⟨by first|rfl|(simp [zg,zy] <;> rfl)|(simp [*,zg,zy] <;> rfl),by repeat(first|(with_reducible first|exact HI0.out|apply zm.alloc|apply zm.drewN|apply zm.drew|apply zm.zjc|refine zm.far ?_ NB0_202.out _)|exact HI0.out),by repeat(first|(with_reducible first|exact HB.out|apply zl|apply zr|apply qx|refine qb ?_ (zm.ge HI0.out)|refine qb ?_ GE202.out)|exact HB.out),by repeat(first|(with_reducible first|exact HK.out|apply qn.set_|apply qe|apply zqe|apply qi|refine zqt ?_ GW202.out _)|exact HK.out)⟩
       replace c21:=Bool.eq_false_iff.mpr c21
       subst c21
       rw [if_neg (show ¬ (false=true) by decide)] at H
       simp only [Option.some.injEq,Prod.mk.injEq] at H
       obtain ⟨rfl,rfl,rfl,rfl,rfl⟩:=H
       go_wp2_with (first|((with_reducible refine qh (f:=125) rfl ?_);refine zqn (some 11) rfl rfl Tryd.func125 (by kernel_rfl) rfl #[.pointer (some ⟨g,0,none⟩)] rfl gs ?_;(with_reducible refine(zqj.calls g s0_0 x1001_1 t203 true t205 w0 _ ?side1 ?side2 A3.out).mono ?_);(case side1=>repeat(first|(with_reducible first|exact HI0.out|apply zm.alloc|apply zm.drewN|apply zm.drew|apply zm.zjc|refine zm.far ?_ NB0_202.out _)|exact HI0.out));(case side2=>repeat(first|(with_reducible first|exact HB.out|apply zl|apply zr|apply qx|refine qb ?_ (zm.ge HI0.out)|refine qb ?_ GE202.out)|exact HB.out));rintro e w29 ⟨rfl,hi,hb,hk⟩;refine⟨_,rfl,?_⟩;replace HO_4:=zq.mk (Kd.zqy (Kd.zkc (zm.apart (show zm w0 _ g s0_0 x1001_1 from by repeat(first|(with_reducible first|exact HI0.out|apply zm.alloc|apply zm.drewN|apply zm.drew|apply zm.zjc|refine zm.far ?_ NB0_202.out _)|exact HI0.out)) (Kd.ru HO_4.out) (by decide)) hk (fun _ h=>h.2)) (fun _ h=>h.1));replace BK202:=zq.mk (qn.blk hk (g':=gb202) (o:=.cells #[.int .i64 x203000_1,.int .i64 x203001_1,.string x203002_1] 38 (0,0)) (up BK202.out) NB202_0.out (by simp));replace HK:=zq.mk (qn.trans (by repeat(first|(with_reducible first|exact HK.out|apply qn.set_|apply qe|apply zqe|apply qi|refine zqt ?_ GW202.out _)|exact HK.out)) hk (.inl rfl));replace HB:=zq.mk (hb);replace HI0:=zq.mk (hi);(try clear hb);(try clear hb2);(try clear hk);(try clear hi))|((with_reducible refine qh (f:=125) rfl ?_);refine zqn (some 25) rfl rfl Tryd.func125 (by kernel_rfl) rfl #[.pointer (some ⟨g,0,none⟩)] rfl gs ?_;(with_reducible refine(zqj.calls g s0_0 t205 t209 true t211 w0 _ ?side1 ?side2 A6.out).mono ?_);(case side1=>repeat(first|(with_reducible first|exact HI0.out|apply zm.alloc|apply zm.drewN|apply zm.drew|apply zm.zjc|refine zm.far ?_ NB0_202.out _)|exact HI0.out));(case side2=>repeat(first|(with_reducible first|exact HB.out|apply zl|apply zr|apply qx|refine qb ?_ (zm.ge HI0.out)|refine qb ?_ GE202.out)|exact HB.out));rintro e w30 ⟨rfl,hi,hb,hk⟩;refine⟨_,rfl,?_⟩;replace HO_4:=zq.mk (Kd.zqy (Kd.zkc (zm.apart (show zm w0 _ g s0_0 t205 from by repeat(first|(with_reducible first|exact HI0.out|apply zm.alloc|apply zm.drewN|apply zm.drew|apply zm.zjc|refine zm.far ?_ NB0_202.out _)|exact HI0.out)) (Kd.ru HO_4.out) (by decide)) hk (fun _ h=>h.2)) (fun _ h=>h.1));replace BK202:=zq.mk (qn.blk hk (g':=gb202) (o:=.cells #[.int .i64 x203000_1,.int .i64 x203001_1,.string x203002_1] 38 (0,0)) (up BK202.out) NB202_0.out (by simp));replace HK:=zq.mk (qn.trans (by repeat(first|(with_reducible first|exact HK.out|apply qn.set_|apply qe|apply zqe|apply qi|refine zqt ?_ GW202.out _)|exact HK.out)) hk (.inl rfl));replace HB:=zq.mk (hb);replace HI0:=zq.mk (hi);(try clear hb);(try clear hb2);(try clear hk);(try clear hi);obtain ⟨Ao31,co31,eo31⟩:=Kd.zje HO_4.out;subst eo31)|((with_reducible refine qh (f:=150) rfl ?_);refine zqn (some 47) rfl rfl Tryd.func150 (by kernel_rfl) rfl #[.slice Ao31 x4_1.length co31] rfl gs ?_;(with_reducible refine(qk.calls _ _ x4_1 false _ ?side1 ?side2 ?side3 A20.out).mono ?_);(case side1=>exact Kd.cu (Kd.zqk HO_4.out).2.2);(case side2=>exact(Kd.zqk HO_4.out).2.1);(case side3=>exact LD.below HLD.out (by first|(with_reducible exact Below.refl _ _)|((repeat(first|(with_reducible exact Below.refl _ _)|(with_reducible apply zl)|(with_reducible apply zr)|(with_reducible apply qx)));done)|exact(by repeat(first|(with_reducible first|exact HB.out|apply zl|apply zr|apply qx|refine qb ?_ (zm.ge HI0.out)|refine qb ?_ GE202.out)|exact HB.out))));rintro e w32 ⟨rfl,hb⟩;refine⟨_,rfl,?_⟩;replace HO_4:=zq.mk (Kd.zq4 (Kd.ru HO_4.out) hb);replace BK202:=zq.mk (ze (g:=gb202) (o:=.cells #[.int .i64 x203000_1,.int .i64 x203001_1,.string x203002_1] 38 (0,0)) (up BK202.out) hb);replace HK:=zq.mk (qn.trans (by repeat(first|(with_reducible first|exact HK.out|apply qn.set_|apply qe|apply zqe|apply qi|refine zqt ?_ GW202.out _)|exact HK.out)) (qn.of_below hb g none) (.inl rfl));replace HB:=zq.mk (zn (by repeat(first|(with_reducible first|exact HB.out|apply zl|apply zr|apply qx|refine qb ?_ (zm.ge HI0.out)|refine qb ?_ GE202.out)|exact HB.out)) hb);replace HI0:=zq.mk (zm.below (by repeat(first|(with_reducible first|exact HI0.out|apply zm.alloc|apply zm.drewN|apply zm.drew|apply zm.zjc|refine zm.far ?_ NB0_202.out _)|exact HI0.out)) hb);(try clear hb);(try clear hb2);(try clear hk);(try clear hi);have hnb33:=NB202_0.out;have hnc33:=NB0_202.out;obtain ⟨hcz34_0,hcz34_1,hcz34_2,hfz34_0,hfz34_1,hfz34_2⟩:=qd BK202.out))
       refine bodyPost_ret (zjp rfl _ _ gb202 38 #[.int .i64 0,.int .i64 0,.string (⟨#[]⟩:ByteArray)] (0,0) _ rfl (by(with_reducible repeat(first|refine zz ?_ _|refine zk ?_|refine zj ?_ _));refine qw (cs:=#[.int .i64 0,.int .i64 0,.string x203002_1]) ?_ 2 _ rfl;(with_reducible repeat(first|refine zz ?_ _|refine zk ?_|refine zj ?_ _));refine qw (cs:=#[.int .i64 0,.int .i64 x203001_1,.string x203002_1]) ?_ 1 _ rfl;(with_reducible repeat(first|refine zz ?_ _|refine zk ?_|refine zj ?_ _));refine qw (cs:=#[.int .i64 x203000_1,.int .i64 x203001_1,.string x203002_1]) ?_ 0 _ rfl;(with_reducible repeat(first|refine zz ?_ _|refine zk ?_|refine zj ?_ _));exact BK202.out) Tryd.underlying38 rfl (by kernel_rfl)) rfl ?_
       exact⟨by first|rfl|(simp [zg,zy] <;> rfl)|(simp [*,zg,zy] <;> rfl),by repeat(first|(with_reducible first|exact HI0.out|apply zm.alloc|apply zm.drewN|apply zm.drew|apply zm.zjc|refine zm.far ?_ NB0_202.out _)|exact HI0.out),by repeat(first|(with_reducible first|exact HB.out|apply zl|apply zr|apply qx|refine qb ?_ (zm.ge HI0.out)|refine qb ?_ GE202.out)|exact HB.out),by repeat(first|(with_reducible first|exact HK.out|apply qn.set_|apply qe|apply zqe|apply qi|refine zqt ?_ GW202.out _)|exact HK.out)⟩
      rw [if_neg c13] at H
      have c13b0:(t209 == 1)=false:=beq_eq_false_iff_ne.mpr c13
      have c13b1:(t209 != 1)=true:=bne_iff_ne.mpr c13
      simp only [Option.some.injEq,Prod.mk.injEq] at H
      obtain ⟨rfl,rfl,rfl,rfl,rfl⟩:=H
      go_wp2_with (first|((with_reducible refine qh (f:=125) rfl ?_);refine zqn (some 11) rfl rfl Tryd.func125 (by kernel_rfl) rfl #[.pointer (some ⟨g,0,none⟩)] rfl gs ?_;(with_reducible refine(zqj.calls g s0_0 x1001_1 t203 true t205 w0 _ ?side1 ?side2 A3.out).mono ?_);(case side1=>repeat(first|(with_reducible first|exact HI0.out|apply zm.alloc|apply zm.drewN|apply zm.drew|apply zm.zjc|refine zm.far ?_ NB0_202.out _)|exact HI0.out));(case side2=>repeat(first|(with_reducible first|exact HB.out|apply zl|apply zr|apply qx|refine qb ?_ (zm.ge HI0.out)|refine qb ?_ GE202.out)|exact HB.out));rintro e w35 ⟨rfl,hi,hb,hk⟩;refine⟨_,rfl,?_⟩;replace HO_4:=zq.mk (Kd.zqy (Kd.zkc (zm.apart (show zm w0 _ g s0_0 x1001_1 from by repeat(first|(with_reducible first|exact HI0.out|apply zm.alloc|apply zm.drewN|apply zm.drew|apply zm.zjc|refine zm.far ?_ NB0_202.out _)|exact HI0.out)) (Kd.ru HO_4.out) (by decide)) hk (fun _ h=>h.2)) (fun _ h=>h.1));replace BK202:=zq.mk (qn.blk hk (g':=gb202) (o:=.cells #[.int .i64 x203000_1,.int .i64 x203001_1,.string x203002_1] 38 (0,0)) (up BK202.out) NB202_0.out (by simp));replace HK:=zq.mk (qn.trans (by repeat(first|(with_reducible first|exact HK.out|apply qn.set_|apply qe|apply zqe|apply qi|refine zqt ?_ GW202.out _)|exact HK.out)) hk (.inl rfl));replace HB:=zq.mk (hb);replace HI0:=zq.mk (hi);(try clear hb);(try clear hb2);(try clear hk);(try clear hi))|((with_reducible refine qh (f:=125) rfl ?_);refine zqn (some 25) rfl rfl Tryd.func125 (by kernel_rfl) rfl #[.pointer (some ⟨g,0,none⟩)] rfl gs ?_;(with_reducible refine(zqj.calls g s0_0 t205 t209 true t211 w0 _ ?side1 ?side2 A6.out).mono ?_);(case side1=>repeat(first|(with_reducible first|exact HI0.out|apply zm.alloc|apply zm.drewN|apply zm.drew|apply zm.zjc|refine zm.far ?_ NB0_202.out _)|exact HI0.out));(case side2=>repeat(first|(with_reducible first|exact HB.out|apply zl|apply zr|apply qx|refine qb ?_ (zm.ge HI0.out)|refine qb ?_ GE202.out)|exact HB.out));rintro e w36 ⟨rfl,hi,hb,hk⟩;refine⟨_,rfl,?_⟩;replace HO_4:=zq.mk (Kd.zqy (Kd.zkc (zm.apart (show zm w0 _ g s0_0 t205 from by repeat(first|(with_reducible first|exact HI0.out|apply zm.alloc|apply zm.drewN|apply zm.drew|apply zm.zjc|refine zm.far ?_ NB0_202.out _)|exact HI0.out)) (Kd.ru HO_4.out) (by decide)) hk (fun _ h=>h.2)) (fun _ h=>h.1));replace BK202:=zq.mk (qn.blk hk (g':=gb202) (o:=.cells #[.int .i64 x203000_1,.int .i64 x203001_1,.string x203002_1] 38 (0,0)) (up BK202.out) NB202_0.out (by simp));replace HK:=zq.mk (qn.trans (by repeat(first|(with_reducible first|exact HK.out|apply qn.set_|apply qe|apply zqe|apply qi|refine zqt ?_ GW202.out _)|exact HK.out)) hk (.inl rfl));replace HB:=zq.mk (hb);replace HI0:=zq.mk (hi);(try clear hb);(try clear hb2);(try clear hk);(try clear hi);have hnb37:=NB202_0.out;have hnc37:=NB0_202.out;obtain ⟨hcz38_0,hcz38_1,hcz38_2,hfz38_0,hfz38_1,hfz38_2⟩:=qd BK202.out))
      refine bodyPost_ret (zjp rfl _ _ gb202 38 #[.int .i64 0,.int .i64 0,.string (⟨#[]⟩:ByteArray)] (0,0) _ rfl (by(with_reducible repeat(first|refine zz ?_ _|refine zk ?_|refine zj ?_ _));refine qw (cs:=#[.int .i64 0,.int .i64 0,.string x203002_1]) ?_ 2 _ rfl;(with_reducible repeat(first|refine zz ?_ _|refine zk ?_|refine zj ?_ _));refine qw (cs:=#[.int .i64 0,.int .i64 x203001_1,.string x203002_1]) ?_ 1 _ rfl;(with_reducible repeat(first|refine zz ?_ _|refine zk ?_|refine zj ?_ _));refine qw (cs:=#[.int .i64 x203000_1,.int .i64 x203001_1,.string x203002_1]) ?_ 0 _ rfl;(with_reducible repeat(first|refine zz ?_ _|refine zk ?_|refine zj ?_ _));exact BK202.out) Tryd.underlying38 rfl (by kernel_rfl)) rfl ?_
      exact⟨by first|rfl|(simp [zg,zy] <;> rfl)|(simp [*,zg,zy] <;> rfl),by repeat(first|(with_reducible first|exact HI0.out|apply zm.alloc|apply zm.drewN|apply zm.drew|apply zm.zjc|refine zm.far ?_ NB0_202.out _)|exact HI0.out),by repeat(first|(with_reducible first|exact HB.out|apply zl|apply zr|apply qx|refine qb ?_ (zm.ge HI0.out)|refine qb ?_ GE202.out)|exact HB.out),by repeat(first|(with_reducible first|exact HK.out|apply qn.set_|apply qe|apply zqe|apply qi|refine zqt ?_ GW202.out _)|exact HK.out)⟩
     replace c7:=Bool.eq_false_iff.mpr c7
     subst c7
     rw [if_neg (show ¬ (false=true) by decide)] at H
     simp only [Option.some.injEq,Prod.mk.injEq] at H
     obtain ⟨rfl,rfl,rfl,rfl,rfl⟩:=H
     go_wp2_with (first|((with_reducible refine qh (f:=125) rfl ?_);refine zqn (some 11) rfl rfl Tryd.func125 (by kernel_rfl) rfl #[.pointer (some ⟨g,0,none⟩)] rfl gs ?_;(with_reducible refine(zqj.calls g s0_0 x1001_1 t203 true t205 w0 _ ?side1 ?side2 A3.out).mono ?_);(case side1=>repeat(first|(with_reducible first|exact HI0.out|apply zm.alloc|apply zm.drewN|apply zm.drew|apply zm.zjc|refine zm.far ?_ NB0_202.out _)|exact HI0.out));(case side2=>repeat(first|(with_reducible first|exact HB.out|apply zl|apply zr|apply qx|refine qb ?_ (zm.ge HI0.out)|refine qb ?_ GE202.out)|exact HB.out));rintro e w39 ⟨rfl,hi,hb,hk⟩;refine⟨_,rfl,?_⟩;replace HO_4:=zq.mk (Kd.zqy (Kd.zkc (zm.apart (show zm w0 _ g s0_0 x1001_1 from by repeat(first|(with_reducible first|exact HI0.out|apply zm.alloc|apply zm.drewN|apply zm.drew|apply zm.zjc|refine zm.far ?_ NB0_202.out _)|exact HI0.out)) (Kd.ru HO_4.out) (by decide)) hk (fun _ h=>h.2)) (fun _ h=>h.1));replace BK202:=zq.mk (qn.blk hk (g':=gb202) (o:=.cells #[.int .i64 x203000_1,.int .i64 x203001_1,.string x203002_1] 38 (0,0)) (up BK202.out) NB202_0.out (by simp));replace HK:=zq.mk (qn.trans (by repeat(first|(with_reducible first|exact HK.out|apply qn.set_|apply qe|apply zqe|apply qi|refine zqt ?_ GW202.out _)|exact HK.out)) hk (.inl rfl));replace HB:=zq.mk (hb);replace HI0:=zq.mk (hi);(try clear hb);(try clear hb2);(try clear hk);(try clear hi))|((with_reducible refine qh (f:=125) rfl ?_);refine zqn (some 25) rfl rfl Tryd.func125 (by kernel_rfl) rfl #[.pointer (some ⟨g,0,none⟩)] rfl gs ?_;(with_reducible refine(zqj.calls g s0_0 t205 t209 false t211 w0 _ ?side1 ?side2 A6.out).mono ?_);(case side1=>repeat(first|(with_reducible first|exact HI0.out|apply zm.alloc|apply zm.drewN|apply zm.drew|apply zm.zjc|refine zm.far ?_ NB0_202.out _)|exact HI0.out));(case side2=>repeat(first|(with_reducible first|exact HB.out|apply zl|apply zr|apply qx|refine qb ?_ (zm.ge HI0.out)|refine qb ?_ GE202.out)|exact HB.out));rintro e w40 ⟨rfl,hi,hb,hk⟩;refine⟨_,rfl,?_⟩;replace HO_4:=zq.mk (Kd.zqy (Kd.zkc (zm.apart (show zm w0 _ g s0_0 t205 from by repeat(first|(with_reducible first|exact HI0.out|apply zm.alloc|apply zm.drewN|apply zm.drew|apply zm.zjc|refine zm.far ?_ NB0_202.out _)|exact HI0.out)) (Kd.ru HO_4.out) (by decide)) hk (fun _ h=>h.2)) (fun _ h=>h.1));replace BK202:=zq.mk (qn.blk hk (g':=gb202) (o:=.cells #[.int .i64 x203000_1,.int .i64 x203001_1,.string x203002_1] 38 (0,0)) (up BK202.out) NB202_0.out (by simp));replace HK:=zq.mk (qn.trans (by repeat(first|(with_reducible first|exact HK.out|apply qn.set_|apply qe|apply zqe|apply qi|refine zqt ?_ GW202.out _)|exact HK.out)) hk (.inl rfl));replace HB:=zq.mk (hb);replace HI0:=zq.mk (hi);(try clear hb);(try clear hb2);(try clear hk);(try clear hi);have hnb41:=NB202_0.out;have hnc41:=NB0_202.out;obtain ⟨hcz42_0,hcz42_1,hcz42_2,hfz42_0,hfz42_1,hfz42_2⟩:=qd BK202.out))
     refine bodyPost_ret (zjp rfl _ _ gb202 38 #[.int .i64 0,.int .i64 0,.string (⟨#[]⟩:ByteArray)] (0,0) _ rfl (by(with_reducible repeat(first|refine zz ?_ _|refine zk ?_|refine zj ?_ _));refine qw (cs:=#[.int .i64 0,.int .i64 0,.string x203002_1]) ?_ 2 _ rfl;(with_reducible repeat(first|refine zz ?_ _|refine zk ?_|refine zj ?_ _));refine qw (cs:=#[.int .i64 0,.int .i64 x203001_1,.string x203002_1]) ?_ 1 _ rfl;(with_reducible repeat(first|refine zz ?_ _|refine zk ?_|refine zj ?_ _));refine qw (cs:=#[.int .i64 x203000_1,.int .i64 x203001_1,.string x203002_1]) ?_ 0 _ rfl;(with_reducible repeat(first|refine zz ?_ _|refine zk ?_|refine zj ?_ _));exact BK202.out) Tryd.underlying38 rfl (by kernel_rfl)) rfl ?_
     exact⟨by first|rfl|(simp [zg,zy] <;> rfl)|(simp [*,zg,zy] <;> rfl),by repeat(first|(with_reducible first|exact HI0.out|apply zm.alloc|apply zm.drewN|apply zm.drew|apply zm.zjc|refine zm.far ?_ NB0_202.out _)|exact HI0.out),by repeat(first|(with_reducible first|exact HB.out|apply zl|apply zr|apply qx|refine qb ?_ (zm.ge HI0.out)|refine qb ?_ GE202.out)|exact HB.out),by repeat(first|(with_reducible first|exact HK.out|apply qn.set_|apply qe|apply zqe|apply qi|refine zqt ?_ GW202.out _)|exact HK.out)⟩
    rw [if_neg c5] at H
    have c5b0:(t203 == 0)=false:=beq_eq_false_iff_ne.mpr c5
    have c5b1:(t203 != 0)=true:=bne_iff_ne.mpr c5
    by_cases c43:x4_1.length<140737488355328
    ·rw [if_pos c43] at H
     have LMc43:=zq.mk c43
     clear c43
     obtain ⟨y206,hy206⟩:∃ y_:List Int,y_=(x4_1 ++ [t203]):=⟨_,rfl⟩
     replace H:(zqc.l0 k1 y206 s0_0 t205)=some (r1,r2,r3,r4,r5):=by first|(rw [hy206];with_reducible exact H)|(have H2_:=(Option.bind_some _ _).symm.trans H;rw [hy206];with_reducible exact H2_)|(have H2_:=(Option.bind_some _ _).symm.trans H;with_reducible exact H2_)|with_reducible exact H|(rw [hy206];exact H)|exact H
     have Ny206:=zq.mk hy206
     clear hy206
     have H':=zq.mk H
     clear H
     go_wp2_with (first|((with_reducible refine qh (f:=125) rfl ?_);refine zqn (some 11) rfl rfl Tryd.func125 (by kernel_rfl) rfl #[.pointer (some ⟨g,0,none⟩)] rfl gs ?_;(with_reducible refine(zqj.calls g s0_0 x1001_1 t203 true t205 w0 _ ?side1 ?side2 A3.out).mono ?_);(case side1=>repeat(first|(with_reducible first|exact HI0.out|apply zm.alloc|apply zm.drewN|apply zm.drew|apply zm.zjc|refine zm.far ?_ NB0_202.out _)|exact HI0.out));(case side2=>repeat(first|(with_reducible first|exact HB.out|apply zl|apply zr|apply qx|refine qb ?_ (zm.ge HI0.out)|refine qb ?_ GE202.out)|exact HB.out));rintro e w44 ⟨rfl,hi,hb,hk⟩;refine⟨_,rfl,?_⟩;replace HO_4:=zq.mk (Kd.zqy (Kd.zkc (zm.apart (show zm w0 _ g s0_0 x1001_1 from by repeat(first|(with_reducible first|exact HI0.out|apply zm.alloc|apply zm.drewN|apply zm.drew|apply zm.zjc|refine zm.far ?_ NB0_202.out _)|exact HI0.out)) (Kd.ru HO_4.out) (by decide)) hk (fun _ h=>h.2)) (fun _ h=>h.1));replace BK202:=zq.mk (qn.blk hk (g':=gb202) (o:=.cells #[.int .i64 x203000_1,.int .i64 x203001_1,.string x203002_1] 38 (0,0)) (up BK202.out) NB202_0.out (by simp));replace HK:=zq.mk (qn.trans (by repeat(first|(with_reducible first|exact HK.out|apply qn.set_|apply qe|apply zqe|apply qi|refine zqt ?_ GW202.out _)|exact HK.out)) hk (.inl rfl));replace HB:=zq.mk (hb);replace HI0:=zq.mk (hi);(try clear hb);(try clear hb2);(try clear hk);(try clear hi))|((with_reducible refine zj7 (b:=.append) (xs:=#[.tmp 19,.tmp 21]) rfl ?_);at_builtin;refine Kd.zjj (Kd.int .u8) w.heap.size rfl (.tmp 19) (.tmp 21) 30 5 (.int .u8 0) 1 rfl Tryd.underlying30 zxr rfl (by decide) (by omega) u4 x4_1 t203 [.int .u8 t203] (fun _=>True) (fun _=>False) rfl rfl ?aP (fun _ hk=>hk.elim) ?aF ?aO (Below.refl _ _) ?aS ?aL ?_;(case aP=>exact rfl);(case aF=>exact(fun _ _=>trivial));(case aO=>exact(Kd.ru HO_4.out));(case aS=>exact(zxd (w:=w) (g:=g) (row:=none) (by repeat(first|(with_reducible first|exact HK.out|apply qn.set_|apply qe|apply zqe|apply qi|refine zqt ?_ GW202.out _)|exact HK.out))));(case aL=>have:=LMc43.out;omega);intro v207 w45 ho hb hg hat;rw [← Ny206.out] at ho;replace BK202:=zq.mk (zxk (g:=gb202) (o:=.cells #[.int .i64 x203000_1,.int .i64 x203001_1,.string x203002_1] 38 (0,0)) (up BK202.out) hg (Kd.R_ne HO_4.out BK202.out (by decide)));replace HB:=zq.mk (zvs (by repeat(first|(with_reducible first|exact HB.out|apply zl|apply zr|apply qx|refine qb ?_ (zm.ge HI0.out)|refine qb ?_ GE202.out)|exact HB.out)) HL.out hb);replace HI0:=zq.mk (zm.grown (by repeat(first|(with_reducible first|exact HI0.out|apply zm.alloc|apply zm.drewN|apply zm.drew|apply zm.zjc|refine zm.far ?_ NB0_202.out _)|exact HI0.out)) hg (zm.own_ne HI0.out HO_4.out (by decide)));replace HK:=zq.mk (qn.trans (by repeat(first|(with_reducible first|exact HK.out|apply qn.set_|apply qe|apply zqe|apply qi|refine zqt ?_ GW202.out _)|exact HK.out)) (qn.zvw hg g) (Kd.R_base2 HO_4.out));have HO208:=zq.mk (ho);clear HO_4 ho hb hg hat))
     go_roundg k1
     case measure=>have:=HK1.out;omega
     case rel=>exact⟨(y206),(t205),(x203000_1),(x203001_1),(x203002_1),H',⟨by have:=HK1.out;omega⟩,⟨by(with_reducible repeat(first|apply Kd.zq5|apply Kd.zq7|apply Kd.zjf));exact HO208.out⟩,⟨by(with_reducible repeat(first|refine zz ?_ _|refine zk ?_|refine zj ?_ _));exact BK202.out⟩,⟨by repeat(first|(with_reducible first|exact HI0.out|apply zm.alloc|apply zm.drewN|apply zm.drew|apply zm.zjc|refine zm.far ?_ NB0_202.out _)|exact HI0.out)⟩,⟨by repeat(first|(with_reducible first|exact HK.out|apply qn.set_|apply qe|apply zqe|apply qi|refine zqt ?_ GW202.out _)|exact HK.out)⟩,⟨by repeat(first|(with_reducible first|exact HB.out|apply zl|apply zr|apply qx|refine qb ?_ (zm.ge HI0.out)|refine qb ?_ GE202.out)|exact HB.out)⟩⟩
    rw [if_neg c43] at H
    exact absurd H (by simp)
   replace c4:=Bool.eq_false_iff.mpr c4
   subst c4
   rw [if_neg (show ¬ (false=true) by decide)] at H
   simp only [Option.some.injEq,Prod.mk.injEq] at H
   obtain ⟨rfl,rfl,rfl,rfl,rfl⟩:=H
   go_wp2_with (first|((with_reducible refine qh (f:=125) rfl ?_);refine zqn (some 11) rfl rfl Tryd.func125 (by kernel_rfl) rfl #[.pointer (some ⟨g,0,none⟩)] rfl gs ?_;(with_reducible refine(zqj.calls g s0_0 x1001_1 t203 false t205 w0 _ ?side1 ?side2 A3.out).mono ?_);(case side1=>repeat(first|(with_reducible first|exact HI0.out|apply zm.alloc|apply zm.drewN|apply zm.drew|apply zm.zjc|refine zm.far ?_ NB0_202.out _)|exact HI0.out));(case side2=>repeat(first|(with_reducible first|exact HB.out|apply zl|apply zr|apply qx|refine qb ?_ (zm.ge HI0.out)|refine qb ?_ GE202.out)|exact HB.out));rintro e w46 ⟨rfl,hi,hb,hk⟩;refine⟨_,rfl,?_⟩;replace HO_4:=zq.mk (Kd.zqy (Kd.zkc (zm.apart (show zm w0 _ g s0_0 x1001_1 from by repeat(first|(with_reducible first|exact HI0.out|apply zm.alloc|apply zm.drewN|apply zm.drew|apply zm.zjc|refine zm.far ?_ NB0_202.out _)|exact HI0.out)) (Kd.ru HO_4.out) (by decide)) hk (fun _ h=>h.2)) (fun _ h=>h.1));replace BK202:=zq.mk (qn.blk hk (g':=gb202) (o:=.cells #[.int .i64 x203000_1,.int .i64 x203001_1,.string x203002_1] 38 (0,0)) (up BK202.out) NB202_0.out (by simp));replace HK:=zq.mk (qn.trans (by repeat(first|(with_reducible first|exact HK.out|apply qn.set_|apply qe|apply zqe|apply qi|refine zqt ?_ GW202.out _)|exact HK.out)) hk (.inl rfl));replace HB:=zq.mk (hb);replace HI0:=zq.mk (hi);(try clear hb);(try clear hb2);(try clear hk);(try clear hi);have hnb47:=NB202_0.out;have hnc47:=NB0_202.out;obtain ⟨hcz48_0,hcz48_1,hcz48_2,hfz48_0,hfz48_1,hfz48_2⟩:=qd BK202.out))
   refine bodyPost_ret (zjp rfl _ _ gb202 38 #[.int .i64 0,.int .i64 0,.string (⟨#[]⟩:ByteArray)] (0,0) _ rfl (by(with_reducible repeat(first|refine zz ?_ _|refine zk ?_|refine zj ?_ _));refine qw (cs:=#[.int .i64 0,.int .i64 0,.string x203002_1]) ?_ 2 _ rfl;(with_reducible repeat(first|refine zz ?_ _|refine zk ?_|refine zj ?_ _));refine qw (cs:=#[.int .i64 0,.int .i64 x203001_1,.string x203002_1]) ?_ 1 _ rfl;(with_reducible repeat(first|refine zz ?_ _|refine zk ?_|refine zj ?_ _));refine qw (cs:=#[.int .i64 x203000_1,.int .i64 x203001_1,.string x203002_1]) ?_ 0 _ rfl;(with_reducible repeat(first|refine zz ?_ _|refine zk ?_|refine zj ?_ _));exact BK202.out) Tryd.underlying38 rfl (by kernel_rfl)) rfl ?_
   exact⟨by first|rfl|(simp [zg,zy] <;> rfl)|(simp [*,zg,zy] <;> rfl),by repeat(first|(with_reducible first|exact HI0.out|apply zm.alloc|apply zm.drewN|apply zm.drew|apply zm.zjc|refine zm.far ?_ NB0_202.out _)|exact HI0.out),by repeat(first|(with_reducible first|exact HB.out|apply zl|apply zr|apply qx|refine qb ?_ (zm.ge HI0.out)|refine qb ?_ GE202.out)|exact HB.out),by repeat(first|(with_reducible first|exact HK.out|apply qn.set_|apply qe|apply zqe|apply qi|refine zqt ?_ GW202.out _)|exact HK.out)⟩

/-! ### zqh: function 103 -/
def zqh.j0:Nat→Int→Int→Bool→List Int→Int→Option (Int × Int × ByteArray × Int × Int)
 | 0,_,_,_,_,_=>none
 | k+1,x6,x16,x20,x1000,x1001=>if x20=true then(some (1,(x6 - 2) % 256,(⟨#[]⟩:ByteArray),0,x1001)) else (if x16=4 then((zqd.f k x1000 x1001).bind fun bt220=>(some (bt220.1,bt220.2.1,bt220.2.2.1,bt220.2.2.2.1,bt220.2.2.2.2))) else (if x16=5 then((zqc.f k x1000 x1001).bind fun bt225=>(some (bt225.1,bt225.2.1,bt225.2.2.1,bt225.2.2.2.1,bt225.2.2.2.2))) else (some (0,0,(⟨#[]⟩:ByteArray),3,x1001))))
def zqh.f (k:Nat) (s0_0:List Int) (s0_1:Int) (a1:Int):Option (Int × Int × ByteArray × Int × Int):=if a1=14 then(some (0,0,(⟨#[]⟩:ByteArray),1,s0_1)) else ((zqj.f s0_0 s0_1).bind fun bt217=>(if bt217.1=1 then(some (0,0,(⟨#[]⟩:ByteArray),0,bt217.2.2)) else (if bt217.1=2 then(zqh.j0 k bt217.1 bt217.1 (bt217.1 == 2) s0_0 bt217.2.2) else (zqh.j0 k bt217.1 bt217.1 (bt217.1 == 3) s0_0 bt217.2.2))))
theorem zqh.mono_l:∀ k,(∀ y0 y1 y2 y3 y4,LeO (zqh.j0 k y0 y1 y2 y3 y4) (zqh.j0 (k+1) y0 y1 y2 y3 y4))
 | 0=>fun _ _ _ _ _ r h=>by simp [zqh.j0] at h
 | k+1=>by
  have ih0:=zqh.mono_l k
  intro y0 y1 y2 y3 y4
  unfold zqh.j0
  repeat' first
  | (with_reducible first|exact ih0 _ _ _ _ _|exact zqd.mono _ _ _|exact zqc.mono _ _ _|exact LeO.refl _|exact LeO.none _|refine LeO.ite ?_ ?_|refine LeO.bind ?_ (fun _=>?_))
  | exact ih0 _ _ _ _ _
  | exact zqd.mono _ _ _
  | exact zqc.mono _ _ _
  | exact LeO.none _
  | refine LeO.ite ?_ ?_
  | refine LeO.bind ?_ (fun _=>?_)
theorem zqh.mono:∀ a0 a1 a2 k,LeO (zqh.f k a0 a1 a2) (zqh.f (k+1) a0 a1 a2):=by
 intro a0 a1 a2 k
 have ih0:=zqh.mono_l k
 unfold zqh.f
 repeat' first
   | (with_reducible first|exact ih0 _ _ _ _ _|exact zqd.mono _ _ _|exact zqc.mono _ _ _|exact LeO.refl _|exact LeO.none _|refine LeO.ite ?_ ?_|refine LeO.bind ?_ (fun _=>?_))
   | exact ih0 _ _ _ _ _
   | exact zqd.mono _ _ _
   | exact zqc.mono _ _ _
   | exact LeO.none _
   | refine LeO.ite ?_ ?_
   | refine LeO.bind ?_ (fun _=>?_)
set_option maxHeartbeats 8000000 in
set_option maxRecDepth 100000 in
theorem zqh.calls (k:Nat) (g:Nat) (s0_0:List Int) (s0_1:Int) (a1:Int) (r1:Int) (r2:Int) (r3:ByteArray) (r4:Int) (r5:Int) (w0 w:World) (hI:zm w0 w g s0_0 s0_1) (hB:Below w0.heap.size w0 w) (hL:LD w0) (h:zqh.f k s0_0 s0_1 a1=some (r1,r2,r3,r4,r5)) :
  Calls Tryd.prog 103 #[.pointer (some ⟨g,0,none⟩),.int .i64 a1] w fun e w'=>e = .returned (.tuple #[.agg #[.int .i64 r1,.int .i64 r2,.string r3],.int .i64 r4])∧zm w0 w' g s0_0 r5∧Below w0.heap.size w0 w'∧qn w w' g none:=by
 have hu38:=Tryd.underlying38
 have HLD:=zq.mk hL
 clear hL
 have HI0:=zq.mk hI
 have HK:=zq.mk (qn.refl w g none)
 have HL:=zq.mk hB.size
 clear hI
 have HW0:=zq.mk hB.size
 have HB:=zq.mk hB
 clear hB
 have H:(if a1=14 then(some (0,0,(⟨#[]⟩:ByteArray),1,s0_1)) else ((zqj.f s0_0 s0_1).bind fun bt217=>(if bt217.1=1 then(some (0,0,(⟨#[]⟩:ByteArray),0,bt217.2.2)) else (if bt217.1=2 then(zqh.j0 k bt217.1 bt217.1 (bt217.1 == 2) s0_0 bt217.2.2) else (zqh.j0 k bt217.1 bt217.1 (bt217.1 == 3) s0_0 bt217.2.2)))))=some (r1,r2,r3,r4,r5):=h
 clear h
 by_cases c3:a1=14
 ·rw [if_pos c3] at H
  have c3b0:(a1 == 14)=true:=beq_iff_eq.mpr c3
  have c3b1:(a1 != 14)=false:=bne_eq_false_iff_eq.mpr c3
  clear c3
  simp only [Option.some.injEq,Prod.mk.injEq] at H
  obtain ⟨rfl,rfl,rfl,rfl,rfl⟩:=H
  go_enter Tryd.func103,Tryd.ntmps103
  go_wp2_with (first|((with_reducible refine qr (N:=4) rfl ?_);refine qm ?hg (N:=4) ?hd (cs:=#[.int .i64 0,.int .i64 0,.string (⟨#[]⟩:ByteArray)]) (t:=38) ?hr ?_;(case hd=>rfl);(case hg=>rfl);(case hr=>first|(go_simp;done)|(go_simp;rfl));intro gb216 hg w4 hbox hb;replace HB:=zq.mk (zn (by repeat(first|(with_reducible first|exact HB.out|apply zl|apply zr|apply qx|refine qb ?_ (zm.ge HI0.out))|exact HB.out)) hb);have BK216:=zq.mk (hbox);have GW216:=zq.mk ((by rw [hg];exact(zxd (w:=w) (g:=g) (row:=none) (by repeat(first|(with_reducible first|exact HK.out|apply qn.set_|apply qe|apply zqe|apply qi)|exact HK.out))):w.heap.size≤gb216));have GE216:=zq.mk ((Nat.le_trans HW0.out (by rw [hg];exact(zxd (w:=w) (g:=g) (row:=none) (by repeat(first|(with_reducible first|exact HK.out|apply qn.set_|apply qe|apply zqe|apply qi)|exact HK.out))):w.heap.size≤gb216):w0.heap.size≤gb216));replace HK:=zq.mk (qn.trans (by repeat(first|(with_reducible first|exact HK.out|apply qn.set_|apply qe|apply zqe|apply qi)|exact HK.out)) (qn.of_below hb g none) (.inl rfl));have NB0_216:=zq.mk ((by rw [hg];exact Nat.ne_of_lt (zm.lt (show zm w0 _ g s0_0 s0_1 from by repeat(first|(with_reducible first|exact HI0.out|apply zm.alloc|apply zm.drewN|apply zm.drew|apply zm.zjc)|exact HI0.out))):g≠gb216));have NB216_0:=zq.mk ((by rw [hg];exact Nat.ne_of_gt (zm.lt (show zm w0 _ g s0_0 s0_1 from by repeat(first|(with_reducible first|exact HI0.out|apply zm.alloc|apply zm.drewN|apply zm.drew|apply zm.zjc)|exact HI0.out))):gb216≠g));replace HI0:=zq.mk (zm.below (by repeat(first|(with_reducible first|exact HI0.out|apply zm.alloc|apply zm.drewN|apply zm.drew|apply zm.zjc)|exact HI0.out)) hb);clear hb hbox hg;have hnb5:=NB216_0.out;have hnc5:=NB0_216.out;obtain ⟨hcz6_0,hcz6_1,hcz6_2,hfz6_0,hfz6_1,hfz6_2⟩:=qd BK216.out))
  refine bodyPost_ret (zjp rfl _ _ gb216 38 #[.int .i64 0,.int .i64 0,.string (⟨#[]⟩:ByteArray)] (0,0) _ rfl (by(with_reducible repeat(first|refine zz ?_ _|refine zk ?_|refine zj ?_ _));refine qw (cs:=#[.int .i64 0,.int .i64 0,.string (⟨#[]⟩:ByteArray)]) ?_ 2 _ rfl;(with_reducible repeat(first|refine zz ?_ _|refine zk ?_|refine zj ?_ _));refine qw (cs:=#[.int .i64 0,.int .i64 0,.string (⟨#[]⟩:ByteArray)]) ?_ 1 _ rfl;(with_reducible repeat(first|refine zz ?_ _|refine zk ?_|refine zj ?_ _));refine qw (cs:=#[.int .i64 0,.int .i64 0,.string (⟨#[]⟩:ByteArray)]) ?_ 0 _ rfl;(with_reducible repeat(first|refine zz ?_ _|refine zk ?_|refine zj ?_ _));exact BK216.out) Tryd.underlying38 rfl (by kernel_rfl)) rfl ?_
  exact⟨by first|rfl|(simp [zg,zy] <;> rfl)|(simp [*,zg,zy] <;> rfl),by repeat(first|(with_reducible first|exact HI0.out|apply zm.alloc|apply zm.drewN|apply zm.drew|apply zm.zjc|refine zm.far ?_ NB0_216.out _)|exact HI0.out),by repeat(first|(with_reducible first|exact HB.out|apply zl|apply zr|apply qx|refine qb ?_ (zm.ge HI0.out)|refine qb ?_ GE216.out)|exact HB.out),by repeat(first|(with_reducible first|exact HK.out|apply qn.set_|apply qe|apply zqe|apply qi|refine zqt ?_ GW216.out _)|exact HK.out)⟩
 rw [if_neg c3] at H
 have c3b0:(a1 == 14)=false:=beq_eq_false_iff_ne.mpr c3
 have c3b1:(a1 != 14)=true:=bne_iff_ne.mpr c3
 replace H:=Option.bind_eq_some_iff.mp H
 obtain ⟨⟨t217,t218,t219⟩,A70,H⟩:=H
 replace H:(if t217=1 then(some (0,0,(⟨#[]⟩:ByteArray),0,t219)) else (if t217=2 then(zqh.j0 k t217 t217 (t217 == 2) s0_0 t219) else (zqh.j0 k t217 t217 (t217 == 3) s0_0 t219)))=some (r1,r2,r3,r4,r5):=H
 have A7:=zq.mk A70
 clear A70
 by_cases c8:t217=1
 ·rw [if_pos c8] at H
  have c8b0:(t217 == 1)=true:=beq_iff_eq.mpr c8
  have c8b1:(t217 != 1)=false:=bne_eq_false_iff_eq.mpr c8
  clear c8
  simp only [Option.some.injEq,Prod.mk.injEq] at H
  obtain ⟨rfl,rfl,rfl,rfl,rfl⟩:=H
  go_enter Tryd.func103,Tryd.ntmps103
  go_wp2_with (first|((with_reducible refine qr (N:=4) rfl ?_);refine qm ?hg (N:=4) ?hd (cs:=#[.int .i64 0,.int .i64 0,.string (⟨#[]⟩:ByteArray)]) (t:=38) ?hr ?_;(case hd=>rfl);(case hg=>rfl);(case hr=>first|(go_simp;done)|(go_simp;rfl));intro gb216 hg w9 hbox hb;replace HB:=zq.mk (zn (by repeat(first|(with_reducible first|exact HB.out|apply zl|apply zr|apply qx|refine qb ?_ (zm.ge HI0.out))|exact HB.out)) hb);have BK216:=zq.mk (hbox);have GW216:=zq.mk ((by rw [hg];exact(zxd (w:=w) (g:=g) (row:=none) (by repeat(first|(with_reducible first|exact HK.out|apply qn.set_|apply qe|apply zqe|apply qi)|exact HK.out))):w.heap.size≤gb216));have GE216:=zq.mk ((Nat.le_trans HW0.out (by rw [hg];exact(zxd (w:=w) (g:=g) (row:=none) (by repeat(first|(with_reducible first|exact HK.out|apply qn.set_|apply qe|apply zqe|apply qi)|exact HK.out))):w.heap.size≤gb216):w0.heap.size≤gb216));replace HK:=zq.mk (qn.trans (by repeat(first|(with_reducible first|exact HK.out|apply qn.set_|apply qe|apply zqe|apply qi)|exact HK.out)) (qn.of_below hb g none) (.inl rfl));have NB0_216:=zq.mk ((by rw [hg];exact Nat.ne_of_lt (zm.lt (show zm w0 _ g s0_0 s0_1 from by repeat(first|(with_reducible first|exact HI0.out|apply zm.alloc|apply zm.drewN|apply zm.drew|apply zm.zjc)|exact HI0.out))):g≠gb216));have NB216_0:=zq.mk ((by rw [hg];exact Nat.ne_of_gt (zm.lt (show zm w0 _ g s0_0 s0_1 from by repeat(first|(with_reducible first|exact HI0.out|apply zm.alloc|apply zm.drewN|apply zm.drew|apply zm.zjc)|exact HI0.out))):gb216≠g));replace HI0:=zq.mk (zm.below (by repeat(first|(with_reducible first|exact HI0.out|apply zm.alloc|apply zm.drewN|apply zm.drew|apply zm.zjc)|exact HI0.out)) hb);clear hb hbox hg)|((with_reducible refine qh (f:=125) rfl ?_);refine zqn (some 13) rfl rfl Tryd.func125 (by kernel_rfl) rfl #[.pointer (some ⟨g,0,none⟩)] rfl gs ?_;(with_reducible refine(zqj.calls g s0_0 s0_1 t217 t218 t219 w0 _ ?side1 ?side2 A7.out).mono ?_);(case side1=>repeat(first|(with_reducible first|exact HI0.out|apply zm.alloc|apply zm.drewN|apply zm.drew|apply zm.zjc|refine zm.far ?_ NB0_216.out _)|exact HI0.out));(case side2=>repeat(first|(with_reducible first|exact HB.out|apply zl|apply zr|apply qx|refine qb ?_ (zm.ge HI0.out)|refine qb ?_ GE216.out)|exact HB.out));rintro e w10 ⟨rfl,hi,hb,hk⟩;refine⟨_,rfl,?_⟩;replace BK216:=zq.mk (qn.blk hk (g':=gb216) (o:=.cells #[.int .i64 0,.int .i64 0,.string (⟨#[]⟩:ByteArray)] 38 (0,0)) (up BK216.out) NB216_0.out (by simp));replace HK:=zq.mk (qn.trans (by repeat(first|(with_reducible first|exact HK.out|apply qn.set_|apply qe|apply zqe|apply qi|refine zqt ?_ GW216.out _)|exact HK.out)) hk (.inl rfl));replace HB:=zq.mk (hb);replace HI0:=zq.mk (hi);(try clear hb);(try clear hb2);(try clear hk);(try clear hi);have hnb11:=NB216_0.out;have hnc11:=NB0_216.out;obtain ⟨hcz12_0,hcz12_1,hcz12_2,hfz12_0,hfz12_1,hfz12_2⟩:=qd BK216.out))
  refine bodyPost_ret (zjp rfl _ _ gb216 38 #[.int .i64 0,.int .i64 0,.string (⟨#[]⟩:ByteArray)] (0,0) _ rfl (by(with_reducible repeat(first|refine zz ?_ _|refine zk ?_|refine zj ?_ _));refine qw (cs:=#[.int .i64 0,.int .i64 0,.string (⟨#[]⟩:ByteArray)]) ?_ 2 _ rfl;(with_reducible repeat(first|refine zz ?_ _|refine zk ?_|refine zj ?_ _));refine qw (cs:=#[.int .i64 0,.int .i64 0,.string (⟨#[]⟩:ByteArray)]) ?_ 1 _ rfl;(with_reducible repeat(first|refine zz ?_ _|refine zk ?_|refine zj ?_ _));refine qw (cs:=#[.int .i64 0,.int .i64 0,.string (⟨#[]⟩:ByteArray)]) ?_ 0 _ rfl;(with_reducible repeat(first|refine zz ?_ _|refine zk ?_|refine zj ?_ _));exact BK216.out) Tryd.underlying38 rfl (by kernel_rfl)) rfl ?_
  exact⟨by first|rfl|(simp [zg,zy] <;> rfl)|(simp [*,zg,zy] <;> rfl),by repeat(first|(with_reducible first|exact HI0.out|apply zm.alloc|apply zm.drewN|apply zm.drew|apply zm.zjc|refine zm.far ?_ NB0_216.out _)|exact HI0.out),by repeat(first|(with_reducible first|exact HB.out|apply zl|apply zr|apply qx|refine qb ?_ (zm.ge HI0.out)|refine qb ?_ GE216.out)|exact HB.out),by repeat(first|(with_reducible first|exact HK.out|apply qn.set_|apply qe|apply zqe|apply qi|refine zqt ?_ GW216.out _)|exact HK.out)⟩
 rw [if_neg c8] at H
 have c8b0:(t217 == 1)=false:=beq_eq_false_iff_ne.mpr c8
 have c8b1:(t217 != 1)=true:=bne_iff_ne.mpr c8
 have HC13:=zq.mk H
 clear H
 go_enter Tryd.func103,Tryd.ntmps103
 go_upto_if 20 with (first|((with_reducible refine qr (N:=4) rfl ?_);refine qm ?hg (N:=4) ?hd (cs:=#[.int .i64 0,.int .i64 0,.string (⟨#[]⟩:ByteArray)]) (t:=38) ?hr ?_;(case hd=>rfl);(case hg=>rfl);(case hr=>first|(go_simp;done)|(go_simp;rfl));intro gb216 hg w14 hbox hb;replace HB:=zq.mk (zn (by repeat(first|(with_reducible first|exact HB.out|apply zl|apply zr|apply qx|refine qb ?_ (zm.ge HI0.out))|exact HB.out)) hb);have BK216:=zq.mk (hbox);have GW216:=zq.mk ((by rw [hg];exact(zxd (w:=w) (g:=g) (row:=none) (by repeat(first|(with_reducible first|exact HK.out|apply qn.set_|apply qe|apply zqe|apply qi)|exact HK.out))):w.heap.size≤gb216));have GE216:=zq.mk ((Nat.le_trans HW0.out (by rw [hg];exact(zxd (w:=w) (g:=g) (row:=none) (by repeat(first|(with_reducible first|exact HK.out|apply qn.set_|apply qe|apply zqe|apply qi)|exact HK.out))):w.heap.size≤gb216):w0.heap.size≤gb216));replace HK:=zq.mk (qn.trans (by repeat(first|(with_reducible first|exact HK.out|apply qn.set_|apply qe|apply zqe|apply qi)|exact HK.out)) (qn.of_below hb g none) (.inl rfl));have NB0_216:=zq.mk ((by rw [hg];exact Nat.ne_of_lt (zm.lt (show zm w0 _ g s0_0 s0_1 from by repeat(first|(with_reducible first|exact HI0.out|apply zm.alloc|apply zm.drewN|apply zm.drew|apply zm.zjc)|exact HI0.out))):g≠gb216));have NB216_0:=zq.mk ((by rw [hg];exact Nat.ne_of_gt (zm.lt (show zm w0 _ g s0_0 s0_1 from by repeat(first|(with_reducible first|exact HI0.out|apply zm.alloc|apply zm.drewN|apply zm.drew|apply zm.zjc)|exact HI0.out))):gb216≠g));replace HI0:=zq.mk (zm.below (by repeat(first|(with_reducible first|exact HI0.out|apply zm.alloc|apply zm.drewN|apply zm.drew|apply zm.zjc)|exact HI0.out)) hb);clear hb hbox hg)|((with_reducible refine qh (f:=125) rfl ?_);refine zqn (some 13) rfl rfl Tryd.func125 (by kernel_rfl) rfl #[.pointer (some ⟨g,0,none⟩)] rfl gs ?_;(with_reducible refine(zqj.calls g s0_0 s0_1 t217 t218 t219 w0 _ ?side1 ?side2 A7.out).mono ?_);(case side1=>repeat(first|(with_reducible first|exact HI0.out|apply zm.alloc|apply zm.drewN|apply zm.drew|apply zm.zjc|refine zm.far ?_ NB0_216.out _)|exact HI0.out));(case side2=>repeat(first|(with_reducible first|exact HB.out|apply zl|apply zr|apply qx|refine qb ?_ (zm.ge HI0.out)|refine qb ?_ GE216.out)|exact HB.out));rintro e w15 ⟨rfl,hi,hb,hk⟩;refine⟨_,rfl,?_⟩;replace BK216:=zq.mk (qn.blk hk (g':=gb216) (o:=.cells #[.int .i64 0,.int .i64 0,.string (⟨#[]⟩:ByteArray)] 38 (0,0)) (up BK216.out) NB216_0.out (by simp));replace HK:=zq.mk (qn.trans (by repeat(first|(with_reducible first|exact HK.out|apply qn.set_|apply qe|apply zqe|apply qi|refine zqt ?_ GW216.out _)|exact HK.out)) hk (.inl rfl));replace HB:=zq.mk (hb);replace HI0:=zq.mk (hi);(try clear hb);(try clear hb2);(try clear hk);(try clear hi)))
 (try simp only [Act.put,List.setIfInBounds_toArray,List.set_cons_zero,List.set_cons_succ])
 go_cut [20] (fun v20 wc => ∃ (kq:Nat) (x20_12:Bool),v20 = .bool x20_12∧zq (zqh.j0 kq t217 t217 x20_12 s0_0 t219=some (r1,r2,r3,r4,r5))∧zq (kq≤k)∧zq (wc.heap[gb216]? = some (.cells #[.int .i64 0,.int .i64 0,.string (⟨#[]⟩:ByteArray)] 38 (0,0)))∧zq (zm w0 wc g s0_0 t219)∧zq (qn w wc g none)∧zq (Below w0.heap.size w0 wc))
 case first=>
  have H:=HC13.out
  clear HC13
  by_cases c16:t217=2
  ·rw [if_pos c16] at H
   have c16b0:(t217 == 2)=true:=beq_iff_eq.mpr c16
   have c16b1:(t217 != 2)=false:=bne_eq_false_iff_eq.mpr c16
   clear c16
   (first|rw [c16b0]|(simp only [zqp,zqq];rw [c16b0])|skip)
   have H':=zq.mk H
   clear H
   go_wp2
   go_meet
   case rel=>exact⟨_,((t217 == 2)),vr,H',⟨by first|omega|exact Nat.le_refl _⟩,⟨by(with_reducible repeat(first|refine zz ?_ _|refine zk ?_|refine zj ?_ _));exact BK216.out⟩,⟨by repeat(first|(with_reducible first|exact HI0.out|apply zm.alloc|apply zm.drewN|apply zm.drew|apply zm.zjc|refine zm.far ?_ NB0_216.out _)|exact HI0.out)⟩,⟨by repeat(first|(with_reducible first|exact HK.out|apply qn.set_|apply qe|apply zqe|apply qi|refine zqt ?_ GW216.out _)|exact HK.out)⟩,⟨by repeat(first|(with_reducible first|exact HB.out|apply zl|apply zr|apply qx|refine qb ?_ (zm.ge HI0.out)|refine qb ?_ GE216.out)|exact HB.out)⟩⟩
  rw [if_neg c16] at H
  have c16b0:(t217 == 2)=false:=beq_eq_false_iff_ne.mpr c16
  have c16b1:(t217 != 2)=true:=bne_iff_ne.mpr c16
  (first|rw [c16b0]|(simp only [zqp,zqq];rw [c16b0])|skip)
  have H':=zq.mk H
  clear H
  go_wp2
  go_meet
  case rel=>exact⟨_,((t217 == 3)),vr,H',⟨by first|omega|exact Nat.le_refl _⟩,⟨by(with_reducible repeat(first|refine zz ?_ _|refine zk ?_|refine zj ?_ _));exact BK216.out⟩,⟨by repeat(first|(with_reducible first|exact HI0.out|apply zm.alloc|apply zm.drewN|apply zm.drew|apply zm.zjc|refine zm.far ?_ NB0_216.out _)|exact HI0.out)⟩,⟨by repeat(first|(with_reducible first|exact HK.out|apply qn.set_|apply qe|apply zqe|apply qi|refine zqt ?_ GW216.out _)|exact HK.out)⟩,⟨by repeat(first|(with_reducible first|exact HB.out|apply zl|apply zr|apply qx|refine qb ?_ (zm.ge HI0.out)|refine qb ?_ GE216.out)|exact HB.out)⟩⟩
 case rest=>
  clear HC13
  (try clear c3);(try clear c3b0);(try clear c3b1);(try clear c8);(try clear c8b0);(try clear c8b1)
  obtain ⟨kq,x20_12,rfl,HA,HJ12,BK216,HI0,HK,HB⟩:=hcut
  cases kq with
  | zero=>exact absurd HA.out (by simp [zqh.j0])
  | succ kj12=>
   have H:=HA.out
   clear HA
   simp only [zqh.j0] at H
   by_cases c17:x20_12=true
   ·subst c17
    rw [if_pos rfl] at H
    simp only [Option.some.injEq,Prod.mk.injEq] at H
    obtain ⟨rfl,rfl,rfl,rfl,rfl⟩:=H
    have hnb18:=NB216_0.out
    have hnc18:=NB0_216.out
    obtain ⟨hcz19_0,hcz19_1,hcz19_2,hfz19_0,hfz19_1,hfz19_2⟩:=qd BK216.out
    go_wp2
    refine bodyPost_ret (zjp rfl _ _ gb216 38 #[.int .i64 1,.int .i64 ((t217 - 2) % 256),.string (⟨#[]⟩:ByteArray)] (0,0) _ rfl (by(with_reducible repeat(first|refine zz ?_ _|refine zk ?_|refine zj ?_ _));refine qw (cs:=#[.int .i64 1,.int .i64 ((t217 - 2) % 256),.string (⟨#[]⟩:ByteArray)]) ?_ 2 _ rfl;(with_reducible repeat(first|refine zz ?_ _|refine zk ?_|refine zj ?_ _));refine qw (cs:=#[.int .i64 1,.int .i64 0,.string (⟨#[]⟩:ByteArray)]) ?_ 1 _ rfl;(with_reducible repeat(first|refine zz ?_ _|refine zk ?_|refine zj ?_ _));refine qw (cs:=#[.int .i64 0,.int .i64 0,.string (⟨#[]⟩:ByteArray)]) ?_ 0 _ rfl;(with_reducible repeat(first|refine zz ?_ _|refine zk ?_|refine zj ?_ _));exact BK216.out) Tryd.underlying38 rfl (by kernel_rfl)) rfl ?_
    exact⟨by first|rfl|(simp [zg,zy] <;> rfl)|(simp [*,zg,zy] <;> rfl),by repeat(first|(with_reducible first|exact HI0.out|apply zm.alloc|apply zm.drewN|apply zm.drew|apply zm.zjc|refine zm.far ?_ NB0_216.out _)|exact HI0.out),by repeat(first|(with_reducible first|exact HB.out|apply zl|apply zr|apply qx|refine qb ?_ (zm.ge HI0.out)|refine qb ?_ GE216.out)|exact HB.out),by repeat(first|(with_reducible first|exact HK.out|apply qn.set_|apply qe|apply zqe|apply qi|refine zqt ?_ GW216.out _)|exact HK.out)⟩
   replace c17:=Bool.eq_false_iff.mpr c17
   subst c17
   rw [if_neg (show ¬ (false=true) by decide)] at H
   by_cases c20:t217=4
   ·rw [if_pos c20] at H
    have c20b0:(t217 == 4)=true:=beq_iff_eq.mpr c20
    have c20b1:(t217 != 4)=false:=bne_eq_false_iff_eq.mpr c20
    clear c20
    replace H:=Option.bind_eq_some_iff.mp H
    obtain ⟨⟨t220,t221,t222,t223,t224⟩,A210,H⟩:=H
    replace H:(some (t220,t221,t222,t223,t224))=some (r1,r2,r3,r4,r5):=H
    have A21:=zq.mk A210
    clear A210
    simp only [Option.some.injEq,Prod.mk.injEq] at H
    obtain ⟨rfl,rfl,rfl,rfl,rfl⟩:=H
    go_wp2_with (first|((with_reducible refine qh (f:=126) rfl ?_);refine zqn (some 30) rfl rfl Tryd.func126 (by kernel_rfl) rfl #[.pointer (some ⟨g,0,none⟩)] rfl gs ?_;(with_reducible refine(zqd.calls kj12 g s0_0 t219 t220 t221 t222 t223 t224 w0 _ ?side1 ?side2 A21.out).mono ?_);(case side1=>repeat(first|(with_reducible first|exact HI0.out|apply zm.alloc|apply zm.drewN|apply zm.drew|apply zm.zjc|refine zm.far ?_ NB0_216.out _)|exact HI0.out));(case side2=>repeat(first|(with_reducible first|exact HB.out|apply zl|apply zr|apply qx|refine qb ?_ (zm.ge HI0.out)|refine qb ?_ GE216.out)|exact HB.out));rintro e w22 ⟨rfl,hi,hb,hk⟩;refine⟨_,rfl,?_⟩;replace BK216:=zq.mk (qn.blk hk (g':=gb216) (o:=.cells #[.int .i64 0,.int .i64 0,.string (⟨#[]⟩:ByteArray)] 38 (0,0)) (up BK216.out) NB216_0.out (by simp));replace HK:=zq.mk (qn.trans (by repeat(first|(with_reducible first|exact HK.out|apply qn.set_|apply qe|apply zqe|apply qi|refine zqt ?_ GW216.out _)|exact HK.out)) hk (.inl rfl));replace HB:=zq.mk (hb);replace HI0:=zq.mk (hi);(try clear hb);(try clear hb2);(try clear hk);(try clear hi);have hnb23:=NB216_0.out;have hnc23:=NB0_216.out;obtain ⟨hcz24_0,hcz24_1,hcz24_2,hfz24_0,hfz24_1,hfz24_2⟩:=qd BK216.out))
    refine bodyPost_ret (zjp rfl _ _ gb216 38 #[.int .i64 t220,.int .i64 t221,.string t222] (0,0) _ rfl (by(with_reducible repeat(first|refine zz ?_ _|refine zk ?_|refine zj ?_ _));refine qw (cs:=#[.int .i64 t220,.int .i64 t221,.string (⟨#[]⟩:ByteArray)]) ?_ 2 _ rfl;(with_reducible repeat(first|refine zz ?_ _|refine zk ?_|refine zj ?_ _));refine qw (cs:=#[.int .i64 t220,.int .i64 0,.string (⟨#[]⟩:ByteArray)]) ?_ 1 _ rfl;(with_reducible repeat(first|refine zz ?_ _|refine zk ?_|refine zj ?_ _));refine qw (cs:=#[.int .i64 0,.int .i64 0,.string (⟨#[]⟩:ByteArray)]) ?_ 0 _ rfl;(with_reducible repeat(first|refine zz ?_ _|refine zk ?_|refine zj ?_ _));exact BK216.out) Tryd.underlying38 rfl (by kernel_rfl)) rfl ?_
    exact⟨by first|rfl|(simp [zg,zy] <;> rfl)|(simp [*,zg,zy] <;> rfl),by repeat(first|(with_reducible first|exact HI0.out|apply zm.alloc|apply zm.drewN|apply zm.drew|apply zm.zjc|refine zm.far ?_ NB0_216.out _)|exact HI0.out),by repeat(first|(with_reducible first|exact HB.out|apply zl|apply zr|apply qx|refine qb ?_ (zm.ge HI0.out)|refine qb ?_ GE216.out)|exact HB.out),by repeat(first|(with_reducible first|exact HK.out|apply qn.set_|apply qe|apply zqe|apply qi|refine zqt ?_ GW216.out _)|exact HK.out)⟩
   rw [if_neg c20] at H
   have c20b0:(t217 == 4)=false:=beq_eq_false_iff_ne.mpr c20
   have c20b1:(t217 != 4)=true:=bne_iff_ne.mpr c20
   by_cases c25:t217=5
   ·rw [if_pos c25] at H
    have c25b0:(t217 == 5)=true:=beq_iff_eq.mpr c25
    have c25b1:(t217 != 5)=false:=bne_eq_false_iff_eq.mpr c25
    clear c25
    replace H:=Option.bind_eq_some_iff.mp H
    obtain ⟨⟨t225,t226,t227,t228,t229⟩,A260,H⟩:=H
    replace H:(some (t225,t226,t227,t228,t229))=some (r1,r2,r3,r4,r5):=H
    have A26:=zq.mk A260
    clear A260
    simp only [Option.some.injEq,Prod.mk.injEq] at H
    obtain ⟨rfl,rfl,rfl,rfl,rfl⟩:=H
    go_wp2_with (first|((with_reducible refine qh (f:=127) rfl ?_);refine zqn (some 36) rfl rfl Tryd.func127 (by kernel_rfl) rfl #[.pointer (some ⟨g,0,none⟩)] rfl gs ?_;(with_reducible refine(zqc.calls kj12 g s0_0 t219 t225 t226 t227 t228 t229 w0 _ ?side1 ?side2 ?side3 A26.out).mono ?_);(case side1=>repeat(first|(with_reducible first|exact HI0.out|apply zm.alloc|apply zm.drewN|apply zm.drew|apply zm.zjc|refine zm.far ?_ NB0_216.out _)|exact HI0.out));(case side2=>repeat(first|(with_reducible first|exact HB.out|apply zl|apply zr|apply qx|refine qb ?_ (zm.ge HI0.out)|refine qb ?_ GE216.out)|exact HB.out));(case side3=>exact HLD.out);rintro e w27 ⟨rfl,hi,hb,hk⟩;refine⟨_,rfl,?_⟩;replace BK216:=zq.mk (qn.blk hk (g':=gb216) (o:=.cells #[.int .i64 0,.int .i64 0,.string (⟨#[]⟩:ByteArray)] 38 (0,0)) (up BK216.out) NB216_0.out (by simp));replace HK:=zq.mk (qn.trans (by repeat(first|(with_reducible first|exact HK.out|apply qn.set_|apply qe|apply zqe|apply qi|refine zqt ?_ GW216.out _)|exact HK.out)) hk (.inl rfl));replace HB:=zq.mk (hb);replace HI0:=zq.mk (hi);(try clear hb);(try clear hb2);(try clear hk);(try clear hi);have hnb28:=NB216_0.out;have hnc28:=NB0_216.out;obtain ⟨hcz29_0,hcz29_1,hcz29_2,hfz29_0,hfz29_1,hfz29_2⟩:=qd BK216.out))
    refine bodyPost_ret (zjp rfl _ _ gb216 38 #[.int .i64 t225,.int .i64 t226,.string t227] (0,0) _ rfl (by(with_reducible repeat(first|refine zz ?_ _|refine zk ?_|refine zj ?_ _));refine qw (cs:=#[.int .i64 t225,.int .i64 t226,.string (⟨#[]⟩:ByteArray)]) ?_ 2 _ rfl;(with_reducible repeat(first|refine zz ?_ _|refine zk ?_|refine zj ?_ _));refine qw (cs:=#[.int .i64 t225,.int .i64 0,.string (⟨#[]⟩:ByteArray)]) ?_ 1 _ rfl;(with_reducible repeat(first|refine zz ?_ _|refine zk ?_|refine zj ?_ _));refine qw (cs:=#[.int .i64 0,.int .i64 0,.string (⟨#[]⟩:ByteArray)]) ?_ 0 _ rfl;(with_reducible repeat(first|refine zz ?_ _|refine zk ?_|refine zj ?_ _));exact BK216.out) Tryd.underlying38 rfl (by kernel_rfl)) rfl ?_
    exact⟨by first|rfl|(simp [zg,zy] <;> rfl)|(simp [*,zg,zy] <;> rfl),by repeat(first|(with_reducible first|exact HI0.out|apply zm.alloc|apply zm.drewN|apply zm.drew|apply zm.zjc|refine zm.far ?_ NB0_216.out _)|exact HI0.out),by repeat(first|(with_reducible first|exact HB.out|apply zl|apply zr|apply qx|refine qb ?_ (zm.ge HI0.out)|refine qb ?_ GE216.out)|exact HB.out),by repeat(first|(with_reducible first|exact HK.out|apply qn.set_|apply qe|apply zqe|apply qi|refine zqt ?_ GW216.out _)|exact HK.out)⟩
   rw [if_neg c25] at H
   have c25b0:(t217 == 5)=false:=beq_eq_false_iff_ne.mpr c25
   have c25b1:(t217 != 5)=true:=bne_iff_ne.mpr c25
   simp only [Option.some.injEq,Prod.mk.injEq] at H
   obtain ⟨rfl,rfl,rfl,rfl,rfl⟩:=H
   have hnb30:=NB216_0.out
   have hnc30:=NB0_216.out
   obtain ⟨hcz31_0,hcz31_1,hcz31_2,hfz31_0,hfz31_1,hfz31_2⟩:=qd BK216.out
   go_wp2
   refine bodyPost_ret (zjp rfl _ _ gb216 38 #[.int .i64 0,.int .i64 0,.string (⟨#[]⟩:ByteArray)] (0,0) _ rfl (by(with_reducible repeat(first|refine zz ?_ _|refine zk ?_|refine zj ?_ _));refine qw (cs:=#[.int .i64 0,.int .i64 0,.string (⟨#[]⟩:ByteArray)]) ?_ 2 _ rfl;(with_reducible repeat(first|refine zz ?_ _|refine zk ?_|refine zj ?_ _));refine qw (cs:=#[.int .i64 0,.int .i64 0,.string (⟨#[]⟩:ByteArray)]) ?_ 1 _ rfl;(with_reducible repeat(first|refine zz ?_ _|refine zk ?_|refine zj ?_ _));refine qw (cs:=#[.int .i64 0,.int .i64 0,.string (⟨#[]⟩:ByteArray)]) ?_ 0 _ rfl;(with_reducible repeat(first|refine zz ?_ _|refine zk ?_|refine zj ?_ _));exact BK216.out) Tryd.underlying38 rfl (by kernel_rfl)) rfl ?_
   exact⟨by first|rfl|(simp [zg,zy] <;> rfl)|(simp [*,zg,zy] <;> rfl),by repeat(first|(with_reducible first|exact HI0.out|apply zm.alloc|apply zm.drewN|apply zm.drew|apply zm.zjc|refine zm.far ?_ NB0_216.out _)|exact HI0.out),by repeat(first|(with_reducible first|exact HB.out|apply zl|apply zr|apply qx|refine qb ?_ (zm.ge HI0.out)|refine qb ?_ GE216.out)|exact HB.out),by repeat(first|(with_reducible first|exact HK.out|apply qn.set_|apply qe|apply zqe|apply qi|refine zqt ?_ GW216.out _)|exact HK.out)⟩

/-! ### zq2: function 64, by hand -/
-- HAND rounds=1 making=1 laid=1 imports=Derived.Deep.Heap
-- INFO 38
def zq2.l (k:Nat) (b:List Int):Nat→Int→List S38→Option (List S38 × Int × Int)
 | 0,_,_=>none
 | m+1,at_,acc=>if at_<(b.length:Int) then(zqh.f k b at_ (acc.length:Int)).bind fun t=>if t.2.2.2.1=0 then(if acc.length<100000 then zq2.l k b m t.2.2.2.2 (acc ++ [⟨t.1,t.2.1,t.2.2.1⟩]) else none) else some ([],at_,t.2.2.2.1) else some (acc,0,0)
def zq2.f (k:Nat) (l0:List Int):Option (List S38 × Int × Int):=if(l0.length:Int) > 1200 then some ([],0,1) else zq2.l k l0 k 0 []
theorem zq2.mono_l (b:List Int):∀ (m k:Nat) (a:Int) (acc:List S38),LeO (zq2.l k b m a acc) (zq2.l (k+1) b (m+1) a acc)
 | 0,_,_,_=>LeO.none _
 | m+1,k,a,acc=>by
  rw [zq2.l,zq2.l]
  refine LeO.ite ?_ (LeO.refl _)
  refine LeO.bind (zqh.mono _ _ _ _) (fun t=>?_)
  exact LeO.ite (LeO.ite (zq2.mono_l b m k _ _) (LeO.refl _)) (LeO.refl _)
theorem zq2.mono:∀ a0 k,LeO (zq2.f k a0) (zq2.f (k+1) a0):=fun a0 k=>LeO.ite (LeO.refl _) (zq2.mono_l a0 k k 0 [])
set_option maxRecDepth 100000 in
set_option maxHeartbeats 4000000 in
theorem zq2.calls (k:Nat) (A0:Option Addr) (c0:Nat) (l0:List Int) (r1:List S38) (r2 r3:Int) (w:World) (hr0:Kd.C (Kd.int .u8) w A0 l0.length l0) (hc0:l0.length≤c0) (hL:LD w) (h:zq2.f k l0=some (r1,r2,r3)) :
  Calls Tryd.prog 64 #[.slice A0 l0.length c0] w fun e w' => ∃ v0_:Value,e = .returned (.tuple #[v0_,.int .i64 r2,.int .i64 r3])∧Kd.R k38 38 w' w.heap.size (fun _=>True) v0_ r1∧Below w.heap.size w w':=by
 unfold zq2.f at h
 by_cases hs:(l0.length:Int) > 1200
 ·rw [if_pos hs] at h
  cases h
  clear hr0 hL
  go_enter Tryd.func64,Tryd.ntmps64
  go_wp2
  go_ret3
  exact⟨_,rfl,Kd.zxf _ _ _ _ _,Below.refl _ _⟩
 rw [if_neg hs] at h
 have HR:=zq.mk hr0
 have HL:=zq.mk hL
 have HF:=zq.mk h
 have hm:l0.length≤1200:=by omega
 clear hr0 hL h
 go_enter Tryd.func64,Tryd.ntmps64
 go_wp2
 go_loopg [6] (k+1) (fun m v wx => ∃ (a:Int) (acc:List S38),zq (zm w wx w.heap.size l0 a)∧zq (Kd.R k38 38 wx w.heap.size (fun q=>q≠w.heap.size) v acc)∧zq (Below w.heap.size w wx)∧zq (∃ m',m=m'+1∧zq2.l k l0 m' a acc=some (r1,r2,r3)))
 case atStart=>exact⟨0, [],⟨⟨A0,c0,heap_alloc_new w _,Nat.le_refl _,HR.out⟩⟩,⟨Kd.zxf _ _ _ _ _⟩,⟨zl (Below.refl _ _) _⟩,⟨k,rfl,HF.out⟩⟩
 case round=>
  clear HF
  obtain ⟨a,acc,HG,HO,HB,HM⟩:=hrel
  obtain ⟨m',rfl,hl⟩:=HM.out
  cases m' with
  | zero=>simp [zq2.l] at hl
  | succ m'=>
  rw [zq2.l] at hl
  obtain ⟨Ax,cx,hgx,_,_⟩:=HG.out
  have hg0:wr.cell? ⟨w.heap.size,0,none⟩=some (.slice Ax l0.length cx):=(zqb hgx 0).trans rfl
  have hg1:wr.cell? ⟨w.heap.size,1,none⟩=some (.int .i64 a):=(zqb hgx 1).trans rfl
  clear hgx
  obtain ⟨Av,cv,rfl⟩:=Kd.zje HO.out
  by_cases hlt:a<(l0.length:Int)
  ·rw [if_pos hlt] at hl
   obtain ⟨⟨t1,t2,t3,t4,t5⟩,ht,hl⟩:=Option.bind_eq_some_iff.1 hl
   have hI:=HG.out
   have HC:=zq.mk (zqh.calls k w.heap.size l0 a (acc.length:Int) t1 t2 t3 t4 t5 w wr hI HB.out HL.out ht)
   have HO':=zq.mk HO.out
   clear ht hI
   by_cases h4:t4=0
   ·subst h4
    rw [if_pos rfl] at hl
    by_cases hn:acc.length<100000
    rotate_left
    ·rw [if_neg hn] at hl;cases hl
    rw [if_pos hn] at hl
    have HL2:=zq.mk hl
    clear hl
    go_wp2_with (first
     | (go_at_call 103;(with_reducible refine HC.out.mono ?_);rintro e2 w2 ⟨rfl,hI2,hb2,hk2⟩;have HI2:=zq.mk hI2;have HLT2:zq (w.heap.size<w2.heap.size):=⟨by obtain ⟨A2,c2,hg2,_,_⟩:=hI2;exact zq3 hg2⟩;have HB2:=zq.mk hb2;have HK2:=zq.mk hk2;clear hI2 hb2 hk2)
     | (at_builtin;refine Kd.zjj k38 (w0:=w) w.heap.size rfl (.tmp 38) (.tmp 40) 23 38 (.agg #[(.int .i64 0),(.int .i64 0),(.string ⟨#[]⟩)]) 32 rfl Tryd.underlying23 info38 rfl (by decide) (by decide) (.slice Av acc.length cv) acc ⟨t1,t2,t3⟩ [.int .i64 t1,.int .i64 t2,.string t3] (fun q=>q≠w.heap.size) (fun _=>False) rfl ?cX (zkn _ _ _ ⟨t1,t2,t3⟩) (fun _ h=>h.elim) ?cF ?cO ?cB ?cS ?cL ?_;(case cX=>first|rfl|(simp [Act.eval];done)|(go_simp;done));(case cF=>intro q hq;have h_:=HLT2.out;simp at hq;omega);(case cO=>exact Kd.zq5 (Kd.zkc HO'.out HK2.out (fun q hq=>hq)) _);(case cB=>exact zl HB2.out _);(case cS=>have h_:=HB2.out.size;simp;omega);(case cL=>omega);intro v3 w3 ho hb hg_ hat;have HO3:=zq.mk ho;have HB3:=zq.mk hb;have HG3:=zq.mk (zm.grown (HI2.out.alloc _) hg_ (fun e_=>HO'.out.1 _ e_.symm rfl));clear ho hb hg_ hat))
    go_roundg (m'+1)
    case measure=>omega
    case rel=>exact⟨t5,acc ++ [⟨t1,t2,t3⟩],HG3,HO3,HB3,⟨m',rfl,HL2.out⟩⟩
   rw [if_neg h4] at hl
   have HL2:=zq.mk hl
   have n4:(t4 != 0)=true:=by simpa using h4
   clear hl h4
   go_wp2_with (go_at_call 103;(with_reducible refine HC.out.mono ?_);rintro e2 w2 ⟨rfl,hI2,hb2,hk2⟩;have HB2:=zq.mk hb2;clear hI2 hb2 hk2)
   obtain ⟨rfl,rfl,rfl⟩ : []=r1∧a=r2∧t4=r3:=by simpa using HL2.out
   go_ret3
   exact⟨_,rfl,Kd.zxf _ _ _ _ _,zl HB2.out _⟩
  rw [if_neg hlt] at hl
  obtain ⟨rfl,rfl,rfl⟩:acc=r1∧0=r2∧0=r3:=by simpa using hl
  clear hl HM
  go_wp2
  go_ret3
  exact⟨_,rfl,Kd.zqy HO.out (fun _ _=>trivial),HB.out⟩

/-! ### bytes_Equal: function 65 -/
def bytes_Equal.f (l0:List Int) (l1:List Int):Option (Bool):=some ((strOfNums l0).toList == (strOfNums l1).toList)
set_option maxHeartbeats 8000000 in
set_option maxRecDepth 100000 in
theorem bytes_Equal.calls (A0:Option Addr) (c0:Nat) (l0:List Int) (A1:Option Addr) (c1:Nat) (l1:List Int) (r:Bool) (w:World) (hr0:Kd.C (Kd.int .u8) w A0 l0.length l0) (hc0:l0.length≤c0) (hr1:Kd.C (Kd.int .u8) w A1 l1.length l1) (hc1:l1.length≤c1) (h:bytes_Equal.f l0 l1=some r) :
  Calls Tryd.prog 65 #[.slice A0 l0.length c0,.slice A1 l1.length c1] w fun e w'=>e = .returned (.bool r)∧za w w':=by
 have HR0:=zq.mk hr0
 have HC0:=zq.mk hc0
 clear hr0 hc0
 have HR1:=zq.mk hr1
 have HC1:=zq.mk hc1
 clear hr1 hc1
 have H:(some ((strOfNums l0).toList == (strOfNums l1).toList))=some r:=h
 clear h
 obtain rfl:=Option.some.inj H
 have hcv3:=Kd.zk2 (P:=Tryd.prog) (A:=A0) (c:=c0) Tryd.underlying30 Tryd.underlying5 Tryd.underlying9 HR0.out
 (try rw [List.length_drop,List.length_take,Nat.min_eq_left (by first|omega|(simp only [eq_iff_iff,iff_true] at *;omega))] at hcv3)
 have hcv4:=Kd.zk2 (P:=Tryd.prog) (A:=A1) (c:=c1) Tryd.underlying30 Tryd.underlying5 Tryd.underlying9 HR1.out
 (try rw [List.length_drop,List.length_take,Nat.min_eq_left (by first|omega|(simp only [eq_iff_iff,iff_true] at *;omega))] at hcv4)
 go_enter Tryd.func65,Tryd.ntmps65
 go_wp2
 go_ret
 exact⟨by first|rfl|(simp;done)|(simp [*];done),by repeat(first|exact za.refl _|apply za.step)⟩

end Go.Proofs.YthhejedfjgikdaaDoor.PRowReads
