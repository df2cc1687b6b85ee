-- Written by wip/pp of this repo (over the kit's print, with additions of this session); Lean checks every line.
import Derived.Test.YthhejedfjgikdaaDoorPRelProjectsx6
namespace Go.Proofs.YthhejedfjgikdaaDoor.PRelProjects
open Go.RowKit Go.Proofs.YthhejedfjgikdaaDoorW.PrintWords Go.Proofs.YthhejedfjgikdaaDoorW.PrintLast Go.Proofs.YthhejedfjgikdaaDoorW.PrintMore
attribute [local go_sem] zjh zjf zjq zjp zq4 zq3 zjg zje   -- for this text's walks alone
set_option linter.unusedVariables false
set_option linter.unusedSimpArgs false

/-! ### zqu: function 50 -/
mutual
def zqu.l0:Nat→List (List (S38))→List (List (S38))→Int→Int→Option (Bool)
 | 0,_,_,_,_=>none
 | k+1,x0,x10,x11,x12=>if x12<x11 then(if 0≤x12 then(if x12<(x10.length:Int) then(if 0<(x0.length:Int) then(if((zqo x10 x12).length:Int)=((zqo x0 0).length:Int) then(zqu.l1 k x0 x10 x11 x12 (zqo x10 x12) ((zqo x10 x12).length:Int) 0) else (some false)) else (none)) else (none)) else (none)) else (some true)
def zqu.l1:Nat→List (List (S38))→List (List (S38))→Int→Int→List (S38)→Int→Int→Option (Bool)
 | 0,_,_,_,_,_,_,_=>none
 | k+1,x0,x10,x11,x12,x23,x24,x25=>if x25<x24 then(if 0≤x25 then(if x25<(x23.length:Int) then((qf.f k ((qe x23 x25).f0) ((qe x23 x25).f1) ((qe x23 x25).f2)).bind fun t168=>(if t168=0 then(zqu.l1 k x0 x10 x11 x12 x23 x24 (wrap64 (x25+1))) else (some false))) else (none)) else (none)) else (zqu.l0 k x0 x10 x11 (wrap64 (x12+1)))
end
def zqu.f (k:Nat) (l0:List (List (S38))):Option (Bool):=if(l0.length:Int) > 200 then(some false) else (zqu.l0 k l0 l0 (l0.length:Int) 0)
theorem zqu.mono_l:∀ k,(∀ y0 y1 y2 y3,LeO (zqu.l0 k y0 y1 y2 y3) (zqu.l0 (k+1) y0 y1 y2 y3))∧(∀ y0 y1 y2 y3 y4 y5 y6,LeO (zqu.l1 k y0 y1 y2 y3 y4 y5 y6) (zqu.l1 (k+1) y0 y1 y2 y3 y4 y5 y6))
 | 0=>⟨fun _ _ _ _ r h=>by simp [zqu.l0] at h,fun _ _ _ _ _ _ _ r h=>by simp [zqu.l1] at h⟩
 | k+1=>by
  obtain ⟨ih0,ih1⟩:=zqu.mono_l k
  refine⟨?_,?_⟩
  ·intro y0 y1 y2 y3
   unfold zqu.l0
   repeat' first
   | (with_reducible first|exact ih0 _ _ _ _|exact ih1 _ _ _ _ _ _ _|exact qf.mono _ _ _ _|exact LeO.refl _|exact LeO.none _|refine LeO.ite ?_ ?_|refine LeO.bind ?_ (fun _=>?_))
   | exact ih0 _ _ _ _
   | exact ih1 _ _ _ _ _ _ _
   | exact qf.mono _ _ _ _
   | exact LeO.none _
   | refine LeO.ite ?_ ?_
   | refine LeO.bind ?_ (fun _=>?_)
  intro y0 y1 y2 y3 y4 y5 y6
  unfold zqu.l1
  repeat' first
  | (with_reducible first|exact ih0 _ _ _ _|exact ih1 _ _ _ _ _ _ _|exact qf.mono _ _ _ _|exact LeO.refl _|exact LeO.none _|refine LeO.ite ?_ ?_|refine LeO.bind ?_ (fun _=>?_))
  | exact ih0 _ _ _ _
  | exact ih1 _ _ _ _ _ _ _
  | exact qf.mono _ _ _ _
  | exact LeO.none _
  | refine LeO.ite ?_ ?_
  | refine LeO.bind ?_ (fun _=>?_)
theorem zqu.mono:∀ a0 k,LeO (zqu.f k a0) (zqu.f (k+1) a0):=by
 intro a0 k
 obtain ⟨ih0,ih1⟩:=zqu.mono_l k
 unfold zqu.f
 repeat' first
   | (with_reducible first|exact ih0 _ _ _ _|exact ih1 _ _ _ _ _ _ _|exact qf.mono _ _ _ _|exact LeO.refl _|exact LeO.none _|refine LeO.ite ?_ ?_|refine LeO.bind ?_ (fun _=>?_))
   | exact ih0 _ _ _ _
   | exact ih1 _ _ _ _ _ _ _
   | exact qf.mono _ _ _ _
   | exact LeO.none _
   | refine LeO.ite ?_ ?_
   | refine LeO.bind ?_ (fun _=>?_)
set_option maxHeartbeats 8000000 in
set_option maxRecDepth 100000 in
theorem zqu.calls (k:Nat) (A0:Option Addr) (c0:Nat) (l0:List (List (S38))) (r:Bool) (w:World) (hr0:Kd.C (Kd.slice 38 k38) w A0 l0.length l0) (hc0:l0.length≤c0) (hL:LD w) (h:zqu.f k l0=some r) :
  Calls Tryd.prog 50 #[.slice A0 l0.length c0] w fun e w'=>e = .returned (.bool r)∧Below w.heap.size w w':=by
 have hu38:=Tryd.underlying38
 have HLD:=zq.mk hL
 clear hL
 have HR0:=zq.mk hr0
 have HC0:=zq.mk hc0
 clear hr0 hc0
 have HB:=zq.mk (Below.refl w.heap.size w)
 have H:(if(l0.length:Int) > 200 then(some false) else (zqu.l0 k l0 l0 (l0.length:Int) 0))=some r:=h
 clear h
 by_cases c2:(l0.length:Int) > 200
 ·rw [if_pos c2] at H
  have c2b0:=decide_eq_true c2
  have c2b1:decide (200<l0.length)=true:=decide_eq_true (by omega)
  clear c2
  obtain rfl:=Option.some.inj H
  go_enter Tryd.func50,Tryd.ntmps50
  go_wp2
  go_ret
  exact⟨by first|rfl|(simp [zx,zj] <;> rfl)|(simp [*,zx,zj] <;> rfl),bw⟩
 rw [if_neg c2] at H
 have c2b0:=decide_eq_false c2
 have c2b1:decide (200<l0.length)=false:=decide_eq_false (by omega)
 clear c2
 have H':=zq.mk H
 clear H
 go_enter Tryd.func50,Tryd.ntmps50
 go_wp2
 go_loopg [12] k (fun kq v12 w' => ∃ (x12_1:Int),v12 = .int .i64 x12_1∧zq (zqu.l0 kq l0 l0 (l0.length:Int) x12_1=some r)∧zq (kq≤k)∧zq (Below w.heap.size w w'))
 case atStart=>exact⟨(0),vr,H',⟨Nat.le_refl _⟩,⟨bw⟩⟩
 case round=>
  clear H'
  (try clear c2);(try clear c2b0);(try clear c2b1)
  obtain ⟨x12_1,rfl,HA,HK1,HB⟩:=hrel
  cases gk with
  | zero=>exact absurd HA.out (by simp [zqu.l0])
  | succ k1=>
   have H:=HA.out
   clear HA
   simp only [zqu.l0] at H
   by_cases c3:x12_1<(l0.length:Int)
   ·rw [if_pos c3] at H
    have c3b0:=decide_eq_true c3
    clear c3
    by_cases c4:0≤x12_1
    ·rw [if_pos c4] at H
     have c4b0:=decide_eq_true c4
     clear c4
     by_cases c5:x12_1<(l0.length:Int)
     ·rw [if_pos c5] at H
      have c5b0:=decide_eq_true c5
      clear c5
      by_cases c6:0<(l0.length:Int)
      ·rw [if_pos c6] at H
       have c6b0:=decide_eq_true c6
       have c6b1:decide (0<l0.length)=true:=decide_eq_true (by omega)
       clear c6
       by_cases c7:((zqo l0 x12_1).length:Int)=((zqo l0 0).length:Int)
       ·rw [if_pos c7] at H
        have c7b0:(((zqo l0 x12_1).length:Int) == ((zqo l0 0).length:Int))=true:=beq_iff_eq.mpr c7
        have c7b1:(((zqo l0 x12_1).length:Int) != ((zqo l0 0).length:Int))=false:=bne_eq_false_iff_eq.mpr c7
        have c7b2:((zqo l0 x12_1).length == (zqo l0 0).length)=true:=by first|simpa using c7|(simp at c7 ⊢;omega)
        clear c7
        have H':=zq.mk H
        clear H
        have p164:0≤(x12_1:Int):=dt
        have q164:x12_1<(l0.length:Int):=dt
        obtain ⟨ad164,A164_0,c164_0,e164,hx164_0,hl164_0,hi164_0⟩:=zxl HR0.out x12_1 p164 q164
        cases e164
        replace hx164_0:=(HB.out.cell (World.block_lt_of_cell? w _ hx164_0)).trans hx164_0
        have HR164_0:=zq.mk hi164_0
        have HC164_0:=zq.mk hl164_0
        clear hi164_0 hl164_0
        replace p164:=eq_true p164
        replace q164:=eq_true q164
        have p165:0≤(0:Int):=(by omega)
        have q165:0<(l0.length:Int):=dt
        obtain ⟨ad165,A165_0,c165_0,e165,hx165_0,hl165_0,hi165_0⟩:=zxl HR0.out 0 p165 q165
        obtain rfl:ad164=ad165:=(by injection e165)
        have qi165:(0<l0.length)=True:=eq_true (by omega)
        (try rw [show((0:Int)).toNat=0 from rfl] at hx165_0)
        (try rw [Addr.add_zero'] at hx165_0)
        replace hx165_0:=(HB.out.cell (World.block_lt_of_cell? w _ hx165_0)).trans hx165_0
        have HR165_0:=zq.mk hi165_0
        have HC165_0:=zq.mk hl165_0
        clear hi165_0 hl165_0
        replace p165:=eq_true p165
        replace q165:=eq_true q165
        go_wp2
        go_loopg [25] k1 (fun kq v25 w' => ∃ (x25_2:Int),v25 = .int .i64 x25_2∧zq (zqu.l1 kq l0 l0 (l0.length:Int) x12_1 (zqo l0 x12_1) ((zqo l0 x12_1).length:Int) x25_2=some r)∧zq (kq≤k1)∧zq (Below w.heap.size w w'))
        case atStart=>exact⟨(0),vr,H',⟨Nat.le_refl _⟩,⟨bw⟩⟩
        case round=>
         clear H'
         (try clear c2);(try clear c2b0);(try clear c2b1);(try clear c3);(try clear c3b0);(try clear c4);(try clear c4b0);(try clear c5);(try clear c5b0);(try clear c6);(try clear c6b0);(try clear c6b1);(try clear c7);(try clear c7b0);(try clear c7b1);(try clear c7b2);(try clear hx164_0);(try clear hx165_0);(try clear p164);(try clear p165);(try clear q164);(try clear q165)
         obtain ⟨x25_2,rfl,HA,HK2,HB⟩:=hrel
         cases gk with
         | zero=>exact absurd HA.out (by simp [zqu.l1])
         | succ k2=>
          have H:=HA.out
          clear HA
          simp only [zqu.l1] at H
          by_cases c8:x25_2<((zqo l0 x12_1).length:Int)
          ·rw [if_pos c8] at H
           have c8b0:=decide_eq_true c8
           clear c8
           by_cases c9:0≤x25_2
           ·rw [if_pos c9] at H
            have c9b0:=decide_eq_true c9
            clear c9
            by_cases c10:x25_2<((zqo l0 x12_1).length:Int)
            ·rw [if_pos c10] at H
             have c10b0:=decide_eq_true c10
             clear c10
             replace H:=Option.bind_eq_some_iff.mp H
             obtain ⟨t168,A110,H⟩:=H
             replace H:(if t168=0 then(zqu.l1 k2 l0 l0 (l0.length:Int) x12_1 (zqo l0 x12_1) ((zqo l0 x12_1).length:Int) (wrap64 (x25_2+1))) else (some false))=some r:=H
             have A11:=zq.mk A110
             clear A110
             by_cases c12:t168=0
             ·rw [if_pos c12] at H
              have c12b0:(t168 == 0)=true:=beq_iff_eq.mpr c12
              have c12b1:(t168 != 0)=false:=bne_eq_false_iff_eq.mpr c12
              clear c12
              have H':=zq.mk H
              clear H
              have p166:0≤(x25_2:Int):=dt
              have q166:x25_2<((zqo l0 x12_1).length:Int):=dt
              obtain ⟨ad166,e166,hx166_0,hx166_1,hx166_2⟩:=zj6 HR164_0.out x25_2 p166 q166
              cases e166
              replace hx166_0:=(HB.out.cell (World.block_lt_of_cell? w _ hx166_0)).trans hx166_0
              replace hx166_1:=(HB.out.cell (World.block_lt_of_cell? w _ hx166_1)).trans hx166_1
              replace hx166_2:=(HB.out.cell (World.block_lt_of_cell? w _ hx166_2)).trans hx166_2
              replace p166:=eq_true p166
              replace q166:=eq_true q166
              go_wp2_with (first|((with_reducible refine qo (N:=6) rfl ?_);refine qd ?hg (N:=6) ?hd (cs:=#[.int .i64 0,.int .i64 0,.string (⟨#[]⟩:ByteArray)]) (t:=38) ?hr ?_;(case hd=>rfl);(case hg=>rfl);(case hr=>first|(go_simp;done)|(go_simp;rfl));intro gb167 hg w13 hbox hb;have BK167:=zq.mk (hbox);have GW167:=zq.mk ((by rw [hg];exact(zy bw):w.heap.size≤gb167));have GE167:=zq.mk ((by rw [hg];exact(zy bw):w.heap.size≤gb167));replace HB:=zq.mk (zt bw hb);clear hb hbox hg;obtain ⟨hcz14_0,hcz14_1,hcz14_2,hfz14_0,hfz14_1,hfz14_2⟩:=zb BK167.out)|((with_reducible refine zl (f:=57) rfl ?_);refine qu (some 30) rfl rfl Tryd.func57 (by kernel_rfl) rfl #[.agg #[.int .i64 ((qe (zqo l0 x12_1) x25_2).f0),.int .i64 ((qe (zqo l0 x12_1) x25_2).f1),.string ((qe (zqo l0 x12_1) x25_2).f2)]] rfl gs ?_;(with_reducible refine(qf.calls k2 ((qe (zqo l0 x12_1) x25_2).f0) ((qe (zqo l0 x12_1) x25_2).f1) ((qe (zqo l0 x12_1) x25_2).f2) t168 _ ?side1 A11.out).mono ?_);(case side1=>exact LD.below HLD.out (by first|(with_reducible exact Below.refl _ _)|((repeat(first|(with_reducible exact Below.refl _ _)|(with_reducible apply zp)|(with_reducible apply qc)|(with_reducible apply zqa)));done)|exact bw));rintro e w15 ⟨rfl,hb⟩;refine⟨_,rfl,?_⟩;replace BK167:=zq.mk (za (g:=gb167) (o:=.cells #[.int .i64 ((qe (zqo l0 x12_1) x25_2).f0),.int .i64 ((qe (zqo l0 x12_1) x25_2).f1),.string ((qe (zqo l0 x12_1) x25_2).f2)] 38 (0,0)) (by(with_reducible repeat(first|refine zh ?_ _|refine zc ?_|refine zv ?_ _));refine zr (cs:=#[.int .i64 ((qe (zqo l0 x12_1) x25_2).f0),.int .i64 ((qe (zqo l0 x12_1) x25_2).f1),.string (⟨#[]⟩:ByteArray)]) ?_ 2 _ rfl;(with_reducible repeat(first|refine zh ?_ _|refine zc ?_|refine zv ?_ _));refine zr (cs:=#[.int .i64 ((qe (zqo l0 x12_1) x25_2).f0),.int .i64 0,.string (⟨#[]⟩:ByteArray)]) ?_ 1 _ rfl;(with_reducible repeat(first|refine zh ?_ _|refine zc ?_|refine zv ?_ _));refine zr (cs:=#[.int .i64 0,.int .i64 0,.string (⟨#[]⟩:ByteArray)]) ?_ 0 _ rfl;(with_reducible repeat(first|refine zh ?_ _|refine zc ?_|refine zv ?_ _));exact BK167.out) hb);replace HB:=zq.mk (zt bw hb);(try clear hb);(try clear hb2);(try clear hk);(try clear hi)))
              go_roundg k2
              case measure=>have:=HK1.out;have:=HK2.out;omega
              case rel=>exact⟨(wrap64 (x25_2+1)),vr,H',⟨by have:=HK1.out;have:=HK2.out;omega⟩,⟨bw⟩⟩
             rw [if_neg c12] at H
             have c12b0:(t168 == 0)=false:=beq_eq_false_iff_ne.mpr c12
             have c12b1:(t168 != 0)=true:=bne_iff_ne.mpr c12
             obtain rfl:=Option.some.inj H
             have p166:0≤(x25_2:Int):=dt
             have q166:x25_2<((zqo l0 x12_1).length:Int):=dt
             obtain ⟨ad166,e166,hx166_0,hx166_1,hx166_2⟩:=zj6 HR164_0.out x25_2 p166 q166
             cases e166
             replace hx166_0:=(HB.out.cell (World.block_lt_of_cell? w _ hx166_0)).trans hx166_0
             replace hx166_1:=(HB.out.cell (World.block_lt_of_cell? w _ hx166_1)).trans hx166_1
             replace hx166_2:=(HB.out.cell (World.block_lt_of_cell? w _ hx166_2)).trans hx166_2
             replace p166:=eq_true p166
             replace q166:=eq_true q166
             go_wp2_with (first|((with_reducible refine qo (N:=6) rfl ?_);refine qd ?hg (N:=6) ?hd (cs:=#[.int .i64 0,.int .i64 0,.string (⟨#[]⟩:ByteArray)]) (t:=38) ?hr ?_;(case hd=>rfl);(case hg=>rfl);(case hr=>first|(go_simp;done)|(go_simp;rfl));intro gb167 hg w16 hbox hb;have BK167:=zq.mk (hbox);have GW167:=zq.mk ((by rw [hg];exact(zy bw):w.heap.size≤gb167));have GE167:=zq.mk ((by rw [hg];exact(zy bw):w.heap.size≤gb167));replace HB:=zq.mk (zt bw hb);clear hb hbox hg;obtain ⟨hcz17_0,hcz17_1,hcz17_2,hfz17_0,hfz17_1,hfz17_2⟩:=zb BK167.out)|((with_reducible refine zl (f:=57) rfl ?_);refine qu (some 30) rfl rfl Tryd.func57 (by kernel_rfl) rfl #[.agg #[.int .i64 ((qe (zqo l0 x12_1) x25_2).f0),.int .i64 ((qe (zqo l0 x12_1) x25_2).f1),.string ((qe (zqo l0 x12_1) x25_2).f2)]] rfl gs ?_;(with_reducible refine(qf.calls k2 ((qe (zqo l0 x12_1) x25_2).f0) ((qe (zqo l0 x12_1) x25_2).f1) ((qe (zqo l0 x12_1) x25_2).f2) t168 _ ?side1 A11.out).mono ?_);(case side1=>exact LD.below HLD.out (by first|(with_reducible exact Below.refl _ _)|((repeat(first|(with_reducible exact Below.refl _ _)|(with_reducible apply zp)|(with_reducible apply qc)|(with_reducible apply zqa)));done)|exact bw));rintro e w18 ⟨rfl,hb⟩;refine⟨_,rfl,?_⟩;replace BK167:=zq.mk (za (g:=gb167) (o:=.cells #[.int .i64 ((qe (zqo l0 x12_1) x25_2).f0),.int .i64 ((qe (zqo l0 x12_1) x25_2).f1),.string ((qe (zqo l0 x12_1) x25_2).f2)] 38 (0,0)) (by(with_reducible repeat(first|refine zh ?_ _|refine zc ?_|refine zv ?_ _));refine zr (cs:=#[.int .i64 ((qe (zqo l0 x12_1) x25_2).f0),.int .i64 ((qe (zqo l0 x12_1) x25_2).f1),.string (⟨#[]⟩:ByteArray)]) ?_ 2 _ rfl;(with_reducible repeat(first|refine zh ?_ _|refine zc ?_|refine zv ?_ _));refine zr (cs:=#[.int .i64 ((qe (zqo l0 x12_1) x25_2).f0),.int .i64 0,.string (⟨#[]⟩:ByteArray)]) ?_ 1 _ rfl;(with_reducible repeat(first|refine zh ?_ _|refine zc ?_|refine zv ?_ _));refine zr (cs:=#[.int .i64 0,.int .i64 0,.string (⟨#[]⟩:ByteArray)]) ?_ 0 _ rfl;(with_reducible repeat(first|refine zh ?_ _|refine zc ?_|refine zv ?_ _));exact BK167.out) hb);replace HB:=zq.mk (zt bw hb);(try clear hb);(try clear hb2);(try clear hk);(try clear hi)))
             go_ret
             exact⟨by first|rfl|(simp [zx,zj] <;> rfl)|(simp [*,zx,zj] <;> rfl),bw⟩
            rw [if_neg c10] at H
            exact absurd H (by simp)
           rw [if_neg c9] at H
           exact absurd H (by simp)
          rw [if_neg c8] at H
          have c8b0:=decide_eq_false c8
          clear c8
          have H':=zq.mk H
          clear H
          go_wp2
          go_roundg k2
          case measure=>have:=HK1.out;have:=HK2.out;omega
          case rel=>exact⟨(wrap64 (x12_1+1)),vr,H',⟨by have:=HK1.out;have:=HK2.out;omega⟩,⟨bw⟩⟩
       rw [if_neg c7] at H
       have c7b0:(((zqo l0 x12_1).length:Int) == ((zqo l0 0).length:Int))=false:=beq_eq_false_iff_ne.mpr c7
       have c7b1:(((zqo l0 x12_1).length:Int) != ((zqo l0 0).length:Int))=true:=bne_iff_ne.mpr c7
       have c7b2:((zqo l0 x12_1).length == (zqo l0 0).length)=false:=by first|simpa using c7|(simp at c7 ⊢;omega)
       obtain rfl:=Option.some.inj H
       have p164:0≤(x12_1:Int):=dt
       have q164:x12_1<(l0.length:Int):=dt
       obtain ⟨ad164,A164_0,c164_0,e164,hx164_0,hl164_0,hi164_0⟩:=zxl HR0.out x12_1 p164 q164
       cases e164
       replace hx164_0:=(HB.out.cell (World.block_lt_of_cell? w _ hx164_0)).trans hx164_0
       have HR164_0:=zq.mk hi164_0
       have HC164_0:=zq.mk hl164_0
       clear hi164_0 hl164_0
       replace p164:=eq_true p164
       replace q164:=eq_true q164
       have p165:0≤(0:Int):=(by omega)
       have q165:0<(l0.length:Int):=dt
       obtain ⟨ad165,A165_0,c165_0,e165,hx165_0,hl165_0,hi165_0⟩:=zxl HR0.out 0 p165 q165
       obtain rfl:ad164=ad165:=(by injection e165)
       have qi165:(0<l0.length)=True:=eq_true (by omega)
       (try rw [show((0:Int)).toNat=0 from rfl] at hx165_0)
       (try rw [Addr.add_zero'] at hx165_0)
       replace hx165_0:=(HB.out.cell (World.block_lt_of_cell? w _ hx165_0)).trans hx165_0
       have HR165_0:=zq.mk hi165_0
       have HC165_0:=zq.mk hl165_0
       clear hi165_0 hl165_0
       replace p165:=eq_true p165
       replace q165:=eq_true q165
       go_wp2
       go_ret
       exact⟨by first|rfl|(simp [zx,zj] <;> rfl)|(simp [*,zx,zj] <;> rfl),bw⟩
      rw [if_neg c6] at H
      exact absurd H (by simp)
     rw [if_neg c5] at H
     exact absurd H (by simp)
    rw [if_neg c4] at H
    exact absurd H (by simp)
   rw [if_neg c3] at H
   have c3b0:=decide_eq_false c3
   clear c3
   obtain rfl:=Option.some.inj H
   go_wp2
   go_ret
   exact⟨by first|rfl|(simp [zx,zj] <;> rfl)|(simp [*,zx,zj] <;> rfl),bw⟩

/-! ### zqg: function 24 -/
mutual
def zqg.l0:Nat→List (S41)→List (List (S38))→List (List (S38))→Int→Int→Option ((List (List (S38))) × Int)
 | 0,_,_,_,_,_=>none
 | k+1,x1,x6,x17,x18,x19=>if x19<x18 then(if 0≤x19 then(if x19<(x17.length:Int) then(zqg.l1 k x1 x6 (zqo x17 x19) ([]:List (S38)) x17 x18 x19 x1 (x1.length:Int) 0) else (none)) else (none)) else (some (x6,0))
def zqg.l1:Nat→List (S41)→List (List (S38))→List (S38)→List (S38)→List (List (S38))→Int→Int→List (S41)→Int→Int→Option ((List (List (S38))) × Int)
 | 0,_,_,_,_,_,_,_,_,_,_=>none
 | k+1,x1,x6,x8,x9,x17,x18,x19,x23,x24,x25=>if x25<x24 then(if 0≤x25 then(if x25<(x23.length:Int) then((zqb.f k ((zg x23 x25).f0) ((zg x23 x25).f1.f0) ((zg x23 x25).f1.f1) ((zg x23 x25).f1.f2) ((zg x23 x25).f2) ((zg x23 x25).f3) ((zg x23 x25).f4) ((zg x23 x25).f5) x8).bind fun bt173=>(if bt173.2.2.2=0 then(if x9.length<4398046511104 then(zqg.l1 k x1 x6 x8 (x9 ++ [(⟨bt173.1,bt173.2.1,bt173.2.2.1⟩:S38)]) x17 x18 x19 x23 x24 (wrap64 (x25+1))) else (none)) else (some (([]:List (List (S38))),bt173.2.2.2)))) else (none)) else (none)) else (if x6.length<5864062014805 then(zqg.l0 k x1 (x6 ++ [x9]) x17 x18 (wrap64 (x19+1))) else (none))
end
def zqg.f (k:Nat) (l0:List (List (S38))) (l1:List (S41)):Option ((List (List (S38))) × Int):=(zqu.f k l0).bind fun t169=>(if t169=true then(zqg.l0 k l1 ([]:List (List (S38))) l0 (l0.length:Int) 0) else (some (([]:List (List (S38))),4)))
theorem zqg.mono_l:∀ k,(∀ y0 y1 y2 y3 y4,LeO (zqg.l0 k y0 y1 y2 y3 y4) (zqg.l0 (k+1) y0 y1 y2 y3 y4))∧(∀ y0 y1 y2 y3 y4 y5 y6 y7 y8 y9,LeO (zqg.l1 k y0 y1 y2 y3 y4 y5 y6 y7 y8 y9) (zqg.l1 (k+1) y0 y1 y2 y3 y4 y5 y6 y7 y8 y9))
 | 0=>⟨fun _ _ _ _ _ r h=>by simp [zqg.l0] at h,fun _ _ _ _ _ _ _ _ _ _ r h=>by simp [zqg.l1] at h⟩
 | k+1=>by
  obtain ⟨ih0,ih1⟩:=zqg.mono_l k
  refine⟨?_,?_⟩
  ·intro y0 y1 y2 y3 y4
   unfold zqg.l0
   repeat' first
   | (with_reducible first|exact ih0 _ _ _ _ _|exact ih1 _ _ _ _ _ _ _ _ _ _|exact zqb.mono _ _ _ _ _ _ _ _ _ _|exact zqu.mono _ _|exact LeO.refl _|exact LeO.none _|refine LeO.ite ?_ ?_|refine LeO.bind ?_ (fun _=>?_))
   | exact ih0 _ _ _ _ _
   | exact ih1 _ _ _ _ _ _ _ _ _ _
   | exact zqb.mono _ _ _ _ _ _ _ _ _ _
   | exact zqu.mono _ _
   | exact LeO.none _
   | refine LeO.ite ?_ ?_
   | refine LeO.bind ?_ (fun _=>?_)
  intro y0 y1 y2 y3 y4 y5 y6 y7 y8 y9
  unfold zqg.l1
  repeat' first
  | (with_reducible first|exact ih0 _ _ _ _ _|exact ih1 _ _ _ _ _ _ _ _ _ _|exact zqb.mono _ _ _ _ _ _ _ _ _ _|exact zqu.mono _ _|exact LeO.refl _|exact LeO.none _|refine LeO.ite ?_ ?_|refine LeO.bind ?_ (fun _=>?_))
  | exact ih0 _ _ _ _ _
  | exact ih1 _ _ _ _ _ _ _ _ _ _
  | exact zqb.mono _ _ _ _ _ _ _ _ _ _
  | exact zqu.mono _ _
  | exact LeO.none _
  | refine LeO.ite ?_ ?_
  | refine LeO.bind ?_ (fun _=>?_)
theorem zqg.mono:∀ a0 a1 k,LeO (zqg.f k a0 a1) (zqg.f (k+1) a0 a1):=by
 intro a0 a1 k
 obtain ⟨ih0,ih1⟩:=zqg.mono_l k
 unfold zqg.f
 repeat' first
   | (with_reducible first|exact ih0 _ _ _ _ _|exact ih1 _ _ _ _ _ _ _ _ _ _|exact zqb.mono _ _ _ _ _ _ _ _ _ _|exact zqu.mono _ _|exact LeO.refl _|exact LeO.none _|refine LeO.ite ?_ ?_|refine LeO.bind ?_ (fun _=>?_))
   | exact ih0 _ _ _ _ _
   | exact ih1 _ _ _ _ _ _ _ _ _ _
   | exact zqb.mono _ _ _ _ _ _ _ _ _ _
   | exact zqu.mono _ _
   | exact LeO.none _
   | refine LeO.ite ?_ ?_
   | refine LeO.bind ?_ (fun _=>?_)
set_option maxHeartbeats 8000000 in
set_option maxRecDepth 100000 in
theorem zqg.calls (k:Nat) (A0:Option Addr) (c0:Nat) (l0:List (List (S38))) (A1:Option Addr) (c1:Nat) (l1:List (S41)) (r1:List (List (S38))) (r2:Int) (w:World) (hr0:Kd.C (Kd.slice 38 k38) w A0 l0.length l0) (hc0:l0.length≤c0) (hr1:Kd.C k41 w A1 l1.length l1) (hc1:l1.length≤c1) (hL:LD w) (h:zqg.f k l0 l1=some (r1,r2)) :
  Calls Tryd.prog 24 #[.slice A0 l0.length c0,.slice A1 l1.length c1] w fun e w' => ∃ v0_:Value,e = .returned (.tuple #[v0_,.int .i64 r2])∧Kd.S (Kd.slice 38 k38) 23 w' w.heap.size (fun _=>True) v0_ r1∧Below w.heap.size w w':=by
 have hu41:=Tryd.underlying41
 have hu38:=Tryd.underlying38
 have HLD:=zq.mk hL
 clear hL
 have HR0:=zq.mk hr0
 have HC0:=zq.mk hc0
 clear hr0 hc0
 have HR1:=zq.mk hr1
 have HC1:=zq.mk hc1
 clear hr1 hc1
 have HB:=zq.mk (Below.refl w.heap.size w)
 have H:((zqu.f k l0).bind fun t169=>(if t169=true then(zqg.l0 k l1 ([]:List (List (S38))) l0 (l0.length:Int) 0) else (some (([]:List (List (S38))),4))))=some (r1,r2):=h
 clear h
 replace H:=Option.bind_eq_some_iff.mp H
 obtain ⟨t169,A30,H⟩:=H
 replace H:(if t169=true then(zqg.l0 k l1 ([]:List (List (S38))) l0 (l0.length:Int) 0) else (some (([]:List (List (S38))),4)))=some (r1,r2):=H
 have A3:=zq.mk A30
 clear A30
 by_cases c4:t169=true
 ·subst c4
  rw [if_pos rfl] at H
  have H':=zq.mk H
  clear H
  go_enter Tryd.func24,Tryd.ntmps24
  go_wp2_with (first|((with_reducible refine zl (f:=50) rfl ?_);refine qu (some 15) rfl rfl Tryd.func50 (by kernel_rfl) rfl #[.slice A0 l0.length c0] rfl gs ?_;(with_reducible refine(zqu.calls k _ _ l0 true _ ?side1 ?side2 ?side3 A3.out).mono ?_);(case side1=>exact Kd.cu HR0.out);(case side2=>exact HC0.out);(case side3=>exact LD.below HLD.out (by first|(with_reducible exact Below.refl _ _)|((repeat(first|(with_reducible exact Below.refl _ _)|(with_reducible apply zp)|(with_reducible apply qc)|(with_reducible apply zqa)));done)|exact bw));rintro e w5 ⟨rfl,hb⟩;refine⟨_,rfl,?_⟩;replace HB:=zq.mk (zt bw hb);(try clear hb);(try clear hb2);(try clear hk);(try clear hi)))
  go_loopg [6,19] k (fun kq v6 v19 w' => ∃ (x6_1:List (List (S38))) (x19_1:Int),v19 = .int .i64 x19_1∧zq (zqg.l0 kq l1 x6_1 l0 (l0.length:Int) x19_1=some (r1,r2))∧zq (kq≤k)∧zq (Kd.S (Kd.slice 38 k38) 23 w' w.heap.size (fun _=>True) v6 x6_1)∧zq (Below w.heap.size w w'))
  case atStart=>exact⟨(([]:List (List (S38)))),(0),vr,H',⟨Nat.le_refl _⟩,⟨by first|exact Kd.S_nil _ _ _ _ _|exact Kd.N_nil _ _ _ _ _|exact Kd.V_nil _ _ _ _ _|exact Kd.Q_nil _ _ _ _ _|exact Kd.zx5 _ _ _ _ _⟩,⟨bw⟩⟩
  case round=>
   clear H'
   (try clear c1);(try clear c4)
   (try clear HO_6)
   obtain ⟨x6_1,x19_1,rfl,HA,HK1,HO_6,HB⟩:=hrel
   cases gk with
   | zero=>exact absurd HA.out (by simp [zqg.l0])
   | succ k1=>
    have H:=HA.out
    clear HA
    simp only [zqg.l0] at H
    by_cases c6:x19_1<(l0.length:Int)
    ·rw [if_pos c6] at H
     have c6b0:=decide_eq_true c6
     clear c6
     by_cases c7:0≤x19_1
     ·rw [if_pos c7] at H
      have c7b0:=decide_eq_true c7
      clear c7
      by_cases c8:x19_1<(l0.length:Int)
      ·rw [if_pos c8] at H
       have c8b0:=decide_eq_true c8
       clear c8
       have H':=zq.mk H
       clear H
       have p170:0≤(x19_1:Int):=dt
       have q170:x19_1<(l0.length:Int):=dt
       obtain ⟨ad170,A170_0,c170_0,e170,hx170_0,hl170_0,hi170_0⟩:=zxl HR0.out x19_1 p170 q170
       cases e170
       replace hx170_0:=(HB.out.cell (World.block_lt_of_cell? w _ hx170_0)).trans hx170_0
       have HR170_0:=zq.mk hi170_0
       have HC170_0:=zq.mk hl170_0
       clear hi170_0 hl170_0
       replace p170:=eq_true p170
       replace q170:=eq_true q170
       go_wp2
       go_loopg [9,25] k1 (fun kq v9 v25 w' => ∃ (x9_2:List (S38)) (x25_2:Int),v25 = .int .i64 x25_2∧zq (zqg.l1 kq l1 x6_1 (zqo l0 x19_1) x9_2 l0 (l0.length:Int) x19_1 l1 (l1.length:Int) x25_2=some (r1,r2))∧zq (kq≤k1)∧zq (Kd.S (Kd.slice 38 k38) 23 w' w.heap.size (fun k_=>some k_≠(v9:Value).ownBlock) u6 x6_1)∧zq (Kd.R k38 38 w' w.heap.size (fun _=>True) v9 x9_2)∧zq (Below w.heap.size w w'))
       case atStart=>exact⟨(([]:List (S38))),(0),vr,H',⟨Nat.le_refl _⟩,⟨by(with_reducible repeat(first|apply Kd.zxj|apply Kd.zxi|apply Kd.zxv));exact Kd.zj7 HO_6.out (fun _ hk=>(by simp [Value.ownBlock]))⟩,⟨by first|exact Kd.zx5 _ _ _ _ _|exact Kd.N_nil _ _ _ _ _|exact Kd.V_nil _ _ _ _ _|exact Kd.Q_nil _ _ _ _ _|exact Kd.S_nil _ _ _ _ _⟩,⟨bw⟩⟩
       case round=>
        clear H'
        (try clear c1);(try clear c4);(try clear c6);(try clear c6b0);(try clear c7);(try clear c7b0);(try clear c8);(try clear c8b0);(try clear hx170_0);(try clear p170);(try clear q170)
        (try clear HO_6);(try clear HO_9)
        obtain ⟨x9_2,x25_2,rfl,HA,HK2,HO_6,HO_9,HB⟩:=hrel
        cases gk with
        | zero=>exact absurd HA.out (by simp [zqg.l1])
        | succ k2=>
         have H:=HA.out
         clear HA
         simp only [zqg.l1] at H
         by_cases c9:x25_2<(l1.length:Int)
         ·rw [if_pos c9] at H
          have c9b0:=decide_eq_true c9
          clear c9
          by_cases c10:0≤x25_2
          ·rw [if_pos c10] at H
           have c10b0:=decide_eq_true c10
           clear c10
           by_cases c11:x25_2<(l1.length:Int)
           ·rw [if_pos c11] at H
            have c11b0:=decide_eq_true c11
            clear c11
            replace H:=Option.bind_eq_some_iff.mp H
            obtain ⟨⟨t173,t174,t175,t176⟩,A120,H⟩:=H
            replace H:(if t176=0 then(if x9_2.length<4398046511104 then(zqg.l1 k2 l1 x6_1 (zqo l0 x19_1) (x9_2 ++ [(⟨t173,t174,t175⟩:S38)]) l0 (l0.length:Int) x19_1 l1 (l1.length:Int) (wrap64 (x25_2+1))) else (none)) else (some (([]:List (List (S38))),t176)))=some (r1,r2):=H
            have A12:=zq.mk A120
            clear A120
            by_cases c13:t176=0
            ·rw [if_pos c13] at H
             have c13b0:(t176 == 0)=true:=beq_iff_eq.mpr c13
             have c13b1:(t176 != 0)=false:=bne_eq_false_iff_eq.mpr c13
             clear c13
             by_cases c14:x9_2.length<4398046511104
             ·rw [if_pos c14] at H
              have LMc14:=zq.mk c14
              clear c14
              obtain ⟨y178,hy178⟩:∃ y_:List (S38),y_=(x9_2 ++ [(⟨t173,t174,t175⟩:S38)]):=⟨_,rfl⟩
              replace H:(zqg.l1 k2 l1 x6_1 (zqo l0 x19_1) y178 l0 (l0.length:Int) x19_1 l1 (l1.length:Int) (wrap64 (x25_2+1)))=some (r1,r2):=by first|(rw [hy178];with_reducible exact H)|(have H2_:=(Option.bind_some _ _).symm.trans H;rw [hy178];with_reducible exact H2_)|(have H2_:=(Option.bind_some _ _).symm.trans H;with_reducible exact H2_)|with_reducible exact H|(rw [hy178];exact H)|exact H
              have Ny178:=zq.mk hy178
              clear hy178
              have H':=zq.mk H
              clear H
              have p171:0≤(x25_2:Int):=dt
              have q171:x25_2<(l1.length:Int):=dt
              obtain ⟨ad171,A171_7,c171_7,e171,hx171_0,hx171_1,hx171_2,hx171_3,hx171_4,hx171_5,hx171_6,hx171_7,hl171_7,hi171_7⟩:=zxh HR1.out x25_2 p171 q171
              cases e171
              replace hx171_0:=(HB.out.cell (World.block_lt_of_cell? w _ hx171_0)).trans hx171_0
              replace hx171_1:=(HB.out.cell (World.block_lt_of_cell? w _ hx171_1)).trans hx171_1
              replace hx171_2:=(HB.out.cell (World.block_lt_of_cell? w _ hx171_2)).trans hx171_2
              replace hx171_3:=(HB.out.cell (World.block_lt_of_cell? w _ hx171_3)).trans hx171_3
              replace hx171_4:=(HB.out.cell (World.block_lt_of_cell? w _ hx171_4)).trans hx171_4
              replace hx171_5:=(HB.out.cell (World.block_lt_of_cell? w _ hx171_5)).trans hx171_5
              replace hx171_6:=(HB.out.cell (World.block_lt_of_cell? w _ hx171_6)).trans hx171_6
              replace hx171_7:=(HB.out.cell (World.block_lt_of_cell? w _ hx171_7)).trans hx171_7
              have HR171_7:=zq.mk hi171_7
              have HC171_7:=zq.mk hl171_7
              clear hi171_7 hl171_7
              replace p171:=eq_true p171
              replace q171:=eq_true q171
              go_wp2_with (first|((with_reducible refine qo (N:=11) rfl ?_);refine qd ?hg (N:=11) ?hd (cs:=#[.int .i64 0,.int .i64 0,.int .i64 0,.string (⟨#[]⟩:ByteArray),.string (⟨#[]⟩:ByteArray),.string (⟨#[]⟩:ByteArray),.int .i64 0,.slice none 0 0]) (t:=41) ?hr ?_;(case hd=>rfl);(case hg=>rfl);(case hr=>first|(go_simp;done)|(go_simp;rfl));intro gb172 hg w15 hbox hb;replace HO_6:=zq.mk (Kd.zjv (Kd.su HO_6.out) hb);replace HO_9:=zq.mk (Kd.zjl (Kd.ru HO_9.out) hb);have BK172:=zq.mk (hbox);have GW172:=zq.mk ((by rw [hg];exact(zy bw):w.heap.size≤gb172));have GE172:=zq.mk ((by rw [hg];exact(zy bw):w.heap.size≤gb172));replace HB:=zq.mk (zt bw hb);clear hb hbox hg;obtain ⟨hcz16_0,hcz16_1,hcz16_2,hcz16_3,hcz16_4,hcz16_5,hcz16_6,hcz16_7,hfz16_0,hfz16_1,hfz16_2,hfz16_3,hfz16_4,hfz16_5,hfz16_6,hfz16_7⟩:=zqv BK172.out)|((with_reducible refine zl (f:=16) rfl ?_);refine qu (some 32) rfl rfl Tryd.func16 (by kernel_rfl) rfl #[.agg #[.int .i64 ((zg l1 x25_2).f0),.int .i64 ((zg l1 x25_2).f1.f0),.int .i64 ((zg l1 x25_2).f1.f1),.string ((zg l1 x25_2).f1.f2),.string ((zg l1 x25_2).f2),.string ((zg l1 x25_2).f3),.int .i64 ((zg l1 x25_2).f4),.slice A171_7 ((zg l1 x25_2).f5).length c171_7],.slice A170_0 (zqo l0 x19_1).length c170_0] rfl gs ?_;(with_reducible refine(zqb.calls k2 ((zg l1 x25_2).f0) ((zg l1 x25_2).f1.f0) ((zg l1 x25_2).f1.f1) ((zg l1 x25_2).f1.f2) ((zg l1 x25_2).f2) ((zg l1 x25_2).f3) ((zg l1 x25_2).f4) _ _ ((zg l1 x25_2).f5) _ _ (zqo l0 x19_1) t173 t174 t175 t176 _ ?side1 ?side2 ?side3 ?side4 ?side5 A12.out).mono ?_);(case side1=>exact Kd.zqj HR171_7.out bw);(case side2=>exact HC171_7.out);(case side3=>exact Kd.zqj HR170_0.out bw);(case side4=>exact HC170_0.out);(case side5=>exact LD.below HLD.out (by first|(with_reducible exact Below.refl _ _)|((repeat(first|(with_reducible exact Below.refl _ _)|(with_reducible apply zp)|(with_reducible apply qc)|(with_reducible apply zqa)));done)|exact bw));rintro e w17 ⟨rfl,hb⟩;refine⟨_,rfl,?_⟩;replace HO_6:=zq.mk (Kd.zjv (Kd.su (Kd.zj7 (Kd.zjo (p:=⟨gb172,7,none⟩) (Kd.zjo (p:=⟨gb172,6,none⟩) (Kd.zjo (p:=⟨gb172,5,none⟩) (Kd.zjo (p:=⟨gb172,4,none⟩) (Kd.zjo (p:=⟨gb172,3,none⟩) (Kd.zjo (p:=⟨gb172,2,none⟩) (Kd.zjo (p:=⟨gb172,1,none⟩) (Kd.zjo (p:=⟨gb172,0,none⟩) (Kd.S_types HO_6.out BK172.out (by decide)) (fun _ hk=>hk.2) (.int .i64 ((zg l1 x25_2).f0))) (fun _ hk=>hk.2) (.int .i64 ((zg l1 x25_2).f1.f0))) (fun _ hk=>hk.2) (.int .i64 ((zg l1 x25_2).f1.f1))) (fun _ hk=>hk.2) (.string ((zg l1 x25_2).f1.f2))) (fun _ hk=>hk.2) (.string ((zg l1 x25_2).f2))) (fun _ hk=>hk.2) (.string ((zg l1 x25_2).f3))) (fun _ hk=>hk.2) (.int .i64 ((zg l1 x25_2).f4))) (fun _ hk=>hk.2) (.slice A171_7 ((zg l1 x25_2).f5).length c171_7)) (fun _ h_=>h_.1))) hb);replace HO_9:=zq.mk (Kd.zjl (Kd.ru (Kd.zjd (Kd.zjj (p:=⟨gb172,7,none⟩) (Kd.zjj (p:=⟨gb172,6,none⟩) (Kd.zjj (p:=⟨gb172,5,none⟩) (Kd.zjj (p:=⟨gb172,4,none⟩) (Kd.zjj (p:=⟨gb172,3,none⟩) (Kd.zjj (p:=⟨gb172,2,none⟩) (Kd.zjj (p:=⟨gb172,1,none⟩) (Kd.zjj (p:=⟨gb172,0,none⟩) (Kd.zx4 HO_9.out BK172.out (by decide)) (fun _ hk=>hk.2) (.int .i64 ((zg l1 x25_2).f0))) (fun _ hk=>hk.2) (.int .i64 ((zg l1 x25_2).f1.f0))) (fun _ hk=>hk.2) (.int .i64 ((zg l1 x25_2).f1.f1))) (fun _ hk=>hk.2) (.string ((zg l1 x25_2).f1.f2))) (fun _ hk=>hk.2) (.string ((zg l1 x25_2).f2))) (fun _ hk=>hk.2) (.string ((zg l1 x25_2).f3))) (fun _ hk=>hk.2) (.int .i64 ((zg l1 x25_2).f4))) (fun _ hk=>hk.2) (.slice A171_7 ((zg l1 x25_2).f5).length c171_7)) (fun _ h_=>h_.1))) hb);replace BK172:=zq.mk (za (g:=gb172) (o:=.cells #[.int .i64 ((zg l1 x25_2).f0),.int .i64 ((zg l1 x25_2).f1.f0),.int .i64 ((zg l1 x25_2).f1.f1),.string ((zg l1 x25_2).f1.f2),.string ((zg l1 x25_2).f2),.string ((zg l1 x25_2).f3),.int .i64 ((zg l1 x25_2).f4),.slice A171_7 ((zg l1 x25_2).f5).length c171_7] 41 (0,0)) (by(with_reducible repeat(first|refine zh ?_ _|refine zc ?_|refine zv ?_ _));refine zr (cs:=#[.int .i64 ((zg l1 x25_2).f0),.int .i64 ((zg l1 x25_2).f1.f0),.int .i64 ((zg l1 x25_2).f1.f1),.string ((zg l1 x25_2).f1.f2),.string ((zg l1 x25_2).f2),.string ((zg l1 x25_2).f3),.int .i64 ((zg l1 x25_2).f4),.slice none 0 0]) ?_ 7 _ rfl;(with_reducible repeat(first|refine zh ?_ _|refine zc ?_|refine zv ?_ _));refine zr (cs:=#[.int .i64 ((zg l1 x25_2).f0),.int .i64 ((zg l1 x25_2).f1.f0),.int .i64 ((zg l1 x25_2).f1.f1),.string ((zg l1 x25_2).f1.f2),.string ((zg l1 x25_2).f2),.string ((zg l1 x25_2).f3),.int .i64 0,.slice none 0 0]) ?_ 6 _ rfl;(with_reducible repeat(first|refine zh ?_ _|refine zc ?_|refine zv ?_ _));refine zr (cs:=#[.int .i64 ((zg l1 x25_2).f0),.int .i64 ((zg l1 x25_2).f1.f0),.int .i64 ((zg l1 x25_2).f1.f1),.string ((zg l1 x25_2).f1.f2),.string ((zg l1 x25_2).f2),.string (⟨#[]⟩:ByteArray),.int .i64 0,.slice none 0 0]) ?_ 5 _ rfl;(with_reducible repeat(first|refine zh ?_ _|refine zc ?_|refine zv ?_ _));refine zr (cs:=#[.int .i64 ((zg l1 x25_2).f0),.int .i64 ((zg l1 x25_2).f1.f0),.int .i64 ((zg l1 x25_2).f1.f1),.string ((zg l1 x25_2).f1.f2),.string (⟨#[]⟩:ByteArray),.string (⟨#[]⟩:ByteArray),.int .i64 0,.slice none 0 0]) ?_ 4 _ rfl;(with_reducible repeat(first|refine zh ?_ _|refine zc ?_|refine zv ?_ _));refine zr (cs:=#[.int .i64 ((zg l1 x25_2).f0),.int .i64 ((zg l1 x25_2).f1.f0),.int .i64 ((zg l1 x25_2).f1.f1),.string (⟨#[]⟩:ByteArray),.string (⟨#[]⟩:ByteArray),.string (⟨#[]⟩:ByteArray),.int .i64 0,.slice none 0 0]) ?_ 3 _ rfl;(with_reducible repeat(first|refine zh ?_ _|refine zc ?_|refine zv ?_ _));refine zr (cs:=#[.int .i64 ((zg l1 x25_2).f0),.int .i64 ((zg l1 x25_2).f1.f0),.int .i64 0,.string (⟨#[]⟩:ByteArray),.string (⟨#[]⟩:ByteArray),.string (⟨#[]⟩:ByteArray),.int .i64 0,.slice none 0 0]) ?_ 2 _ rfl;(with_reducible repeat(first|refine zh ?_ _|refine zc ?_|refine zv ?_ _));refine zr (cs:=#[.int .i64 ((zg l1 x25_2).f0),.int .i64 0,.int .i64 0,.string (⟨#[]⟩:ByteArray),.string (⟨#[]⟩:ByteArray),.string (⟨#[]⟩:ByteArray),.int .i64 0,.slice none 0 0]) ?_ 1 _ rfl;(with_reducible repeat(first|refine zh ?_ _|refine zc ?_|refine zv ?_ _));refine zr (cs:=#[.int .i64 0,.int .i64 0,.int .i64 0,.string (⟨#[]⟩:ByteArray),.string (⟨#[]⟩:ByteArray),.string (⟨#[]⟩:ByteArray),.int .i64 0,.slice none 0 0]) ?_ 0 _ rfl;(with_reducible repeat(first|refine zh ?_ _|refine zc ?_|refine zv ?_ _));exact BK172.out) hb);replace HB:=zq.mk (zt bw hb);(try clear hb);(try clear hb2);(try clear hk);(try clear hi))|((with_reducible refine qo (N:=12) rfl ?_);refine qd ?hg (N:=12) ?hd (cs:=#[.int .i64 0,.int .i64 0,.string (⟨#[]⟩:ByteArray)]) (t:=38) ?hr ?_;(case hd=>rfl);(case hg=>rfl);(case hr=>first|(go_simp;done)|(go_simp;rfl));intro gb177 hg w18 hbox hb;replace HO_6:=zq.mk (Kd.zjv (Kd.zxx (Kd.su HO_6.out) gb177 (Nat.le_of_eq hg.symm)) hb);replace HO_9:=zq.mk (Kd.zjl (Kd.zxd (Kd.ru HO_9.out) gb177 (Nat.le_of_eq hg.symm)) hb);have BK177:=zq.mk (hbox);have GW177:=zq.mk ((by rw [hg];exact(zy bw):w.heap.size≤gb177));have GE177:=zq.mk ((by rw [hg];exact(zy bw):w.heap.size≤gb177));replace HB:=zq.mk (zt bw hb);have NB172_177:=zq.mk ((by rw [hg];exact Nat.ne_of_lt (qi (g:=gb172) (o:=.cells #[.int .i64 ((zg l1 x25_2).f0),.int .i64 ((zg l1 x25_2).f1.f0),.int .i64 ((zg l1 x25_2).f1.f1),.string ((zg l1 x25_2).f1.f2),.string ((zg l1 x25_2).f2),.string ((zg l1 x25_2).f3),.int .i64 ((zg l1 x25_2).f4),.slice A171_7 ((zg l1 x25_2).f5).length c171_7] 41 (0,0)) (up BK172.out)):gb172≠gb177));have NB177_172:=zq.mk ((by rw [hg];exact Nat.ne_of_gt (qi (g:=gb172) (o:=.cells #[.int .i64 ((zg l1 x25_2).f0),.int .i64 ((zg l1 x25_2).f1.f0),.int .i64 ((zg l1 x25_2).f1.f1),.string ((zg l1 x25_2).f1.f2),.string ((zg l1 x25_2).f2),.string ((zg l1 x25_2).f3),.int .i64 ((zg l1 x25_2).f4),.slice A171_7 ((zg l1 x25_2).f5).length c171_7] 41 (0,0)) (up BK172.out)):gb177≠gb172));replace BK172:=zq.mk (za (g:=gb172) (o:=.cells #[.int .i64 ((zg l1 x25_2).f0),.int .i64 ((zg l1 x25_2).f1.f0),.int .i64 ((zg l1 x25_2).f1.f1),.string ((zg l1 x25_2).f1.f2),.string ((zg l1 x25_2).f2),.string ((zg l1 x25_2).f3),.int .i64 ((zg l1 x25_2).f4),.slice A171_7 ((zg l1 x25_2).f5).length c171_7] 41 (0,0)) (up BK172.out) hb);clear hb hbox hg;have hnb19:=NB177_172.out;have hnc19:=NB172_177.out;obtain ⟨hcz20_0,hcz20_1,hcz20_2,hfz20_0,hfz20_1,hfz20_2⟩:=zb BK177.out)|((with_reducible refine zxb (b:=.append) (xs:=#[.tmp 38,.tmp 40]) rfl ?_);at_builtin;refine Kd.R_append k38 (w0:=w) w.heap.size rfl (.tmp 38) (.tmp 40) 23 38 (.agg #[(.int .i64 0),(.int .i64 0),(.string ⟨#[]⟩)]) 32 rfl Tryd.underlying23 info38 rfl (by decide) (by omega) u9 x9_2 (⟨t173,t174,t175⟩:S38) [.int .i64 t173,.int .i64 t174,.string t175] (fun k_=>k_≠gb177) (fun _=>False) rfl (by first|(go_simp;done)|(go_simp;rfl)) ?aP (fun _ hk=>hk.elim) ?aF ?aO ?aB ?aS ?aL ?_;(case aP=>exact zx2 _ _ _ (⟨t173,t174,t175⟩:S38));(case aB=>exact bw);(case aF=>exact(fun k_ hk=>Kd.freshB (g:=gb177) (o:=.cells #[.int .i64 t173,.int .i64 t174,.string t175] 38 (0,0)) (by(with_reducible repeat(first|refine zh ?_ _|refine zc ?_|refine zv ?_ _));refine zr (cs:=#[.int .i64 t173,.int .i64 t174,.string (⟨#[]⟩:ByteArray)]) ?_ 2 _ rfl;(with_reducible repeat(first|refine zh ?_ _|refine zc ?_|refine zv ?_ _));refine zr (cs:=#[.int .i64 t173,.int .i64 0,.string (⟨#[]⟩:ByteArray)]) ?_ 1 _ rfl;(with_reducible repeat(first|refine zh ?_ _|refine zc ?_|refine zv ?_ _));refine zr (cs:=#[.int .i64 0,.int .i64 0,.string (⟨#[]⟩:ByteArray)]) ?_ 0 _ rfl;(with_reducible repeat(first|refine zh ?_ _|refine zc ?_|refine zv ?_ _));exact BK177.out) k_ hk));(case aO=>exact(Kd.ru (Kd.zjd (Kd.zjj (p:=⟨gb177,2,none⟩) (Kd.zjj (p:=⟨gb177,1,none⟩) (Kd.zjj (p:=⟨gb177,0,none⟩) (Kd.zjd HO_9.out (fun k_ hk=>(⟨hk,hk.2⟩:_∧k_≠gb177))) (fun _ hk=>hk.2) (.int .i64 t173)) (fun _ hk=>hk.2) (.int .i64 t174)) (fun _ hk=>hk.2) (.string t175)) (fun _ hk=>hk.1.2))));(case aS=>exact(zy bw));(case aL=>have:=LMc14.out;omega);intro v179 w21 ho hb hg hat;rw [← Ny178.out] at ho;replace HO_6:=zq.mk (Kd.S_after (ok:=(fun k_=>k_≠gb177)) (Kd.su (Kd.zj7 (Kd.zjo (p:=⟨gb177,2,none⟩) (Kd.zjo (p:=⟨gb177,1,none⟩) (Kd.zjo (p:=⟨gb177,0,none⟩) (Kd.zj7 HO_6.out (fun k_ hk=>(⟨hk,hk.2⟩:_∧k_≠gb177))) (fun _ hk=>hk.2) (.int .i64 t173)) (fun _ hk=>hk.2) (.int .i64 t174)) (fun _ hk=>hk.2) (.string t175)) (fun _ hk=>⟨hk.1.2,hk.1.1⟩))) hg hat);replace BK172:=zq.mk (zxp (g:=gb172) (o:=.cells #[.int .i64 ((zg l1 x25_2).f0),.int .i64 ((zg l1 x25_2).f1.f0),.int .i64 ((zg l1 x25_2).f1.f1),.string ((zg l1 x25_2).f1.f2),.string ((zg l1 x25_2).f2),.string ((zg l1 x25_2).f3),.int .i64 ((zg l1 x25_2).f4),.slice A171_7 ((zg l1 x25_2).f5).length c171_7] 41 (0,0)) (by(with_reducible repeat(first|refine zh ?_ _|refine zc ?_|refine zv ?_ _));refine zqy ?_ NB172_177.out _;(with_reducible repeat(first|refine zh ?_ _|refine zc ?_|refine zv ?_ _));refine zqy ?_ NB172_177.out _;(with_reducible repeat(first|refine zh ?_ _|refine zc ?_|refine zv ?_ _));refine zqy ?_ NB172_177.out _;(with_reducible repeat(first|refine zh ?_ _|refine zc ?_|refine zv ?_ _));exact BK172.out) hg (Kd.R_ne HO_9.out BK172.out (by decide)));replace BK177:=zq.mk (zxp (g:=gb177) (o:=.cells #[.int .i64 t173,.int .i64 t174,.string t175] 38 (0,0)) (by(with_reducible repeat(first|refine zh ?_ _|refine zc ?_|refine zv ?_ _));refine zr (cs:=#[.int .i64 t173,.int .i64 t174,.string (⟨#[]⟩:ByteArray)]) ?_ 2 _ rfl;(with_reducible repeat(first|refine zh ?_ _|refine zc ?_|refine zv ?_ _));refine zr (cs:=#[.int .i64 t173,.int .i64 0,.string (⟨#[]⟩:ByteArray)]) ?_ 1 _ rfl;(with_reducible repeat(first|refine zh ?_ _|refine zc ?_|refine zv ?_ _));refine zr (cs:=#[.int .i64 0,.int .i64 0,.string (⟨#[]⟩:ByteArray)]) ?_ 0 _ rfl;(with_reducible repeat(first|refine zh ?_ _|refine zc ?_|refine zv ?_ _));exact BK177.out) hg (Kd.R_away HO_9.out (fun _ hk=>hk.2)));replace HB:=zq.mk (hb);have HO180:=zq.mk (ho);clear HO_9 ho hb hg hat))
              go_roundg k2
              case measure=>have:=HK1.out;have:=HK2.out;omega
              case rel=>exact⟨(y178),(wrap64 (x25_2+1)),vr,H',⟨by have:=HK1.out;have:=HK2.out;omega⟩,⟨by(with_reducible repeat(first|apply Kd.zxj|apply Kd.zxi|apply Kd.zxv));exact Kd.zj7 HO_6.out (fun _ hk=>hk.2)⟩,⟨by(with_reducible repeat(first|apply Kd.zx7|apply Kd.zx6|apply Kd.R_drew));exact Kd.zjd HO180.out (fun _ hk=>trivial)⟩,⟨bw⟩⟩
             rw [if_neg c14] at H
             exact absurd H (by simp)
            rw [if_neg c13] at H
            have c13b0:(t176 == 0)=false:=beq_eq_false_iff_ne.mpr c13
            have c13b1:(t176 != 0)=true:=bne_iff_ne.mpr c13
            simp only [Option.some.injEq,Prod.mk.injEq] at H
            obtain ⟨rfl,rfl⟩:=H
            have p171:0≤(x25_2:Int):=dt
            have q171:x25_2<(l1.length:Int):=dt
            obtain ⟨ad171,A171_7,c171_7,e171,hx171_0,hx171_1,hx171_2,hx171_3,hx171_4,hx171_5,hx171_6,hx171_7,hl171_7,hi171_7⟩:=zxh HR1.out x25_2 p171 q171
            cases e171
            replace hx171_0:=(HB.out.cell (World.block_lt_of_cell? w _ hx171_0)).trans hx171_0
            replace hx171_1:=(HB.out.cell (World.block_lt_of_cell? w _ hx171_1)).trans hx171_1
            replace hx171_2:=(HB.out.cell (World.block_lt_of_cell? w _ hx171_2)).trans hx171_2
            replace hx171_3:=(HB.out.cell (World.block_lt_of_cell? w _ hx171_3)).trans hx171_3
            replace hx171_4:=(HB.out.cell (World.block_lt_of_cell? w _ hx171_4)).trans hx171_4
            replace hx171_5:=(HB.out.cell (World.block_lt_of_cell? w _ hx171_5)).trans hx171_5
            replace hx171_6:=(HB.out.cell (World.block_lt_of_cell? w _ hx171_6)).trans hx171_6
            replace hx171_7:=(HB.out.cell (World.block_lt_of_cell? w _ hx171_7)).trans hx171_7
            have HR171_7:=zq.mk hi171_7
            have HC171_7:=zq.mk hl171_7
            clear hi171_7 hl171_7
            replace p171:=eq_true p171
            replace q171:=eq_true q171
            go_wp2_with (first|((with_reducible refine qo (N:=11) rfl ?_);refine qd ?hg (N:=11) ?hd (cs:=#[.int .i64 0,.int .i64 0,.int .i64 0,.string (⟨#[]⟩:ByteArray),.string (⟨#[]⟩:ByteArray),.string (⟨#[]⟩:ByteArray),.int .i64 0,.slice none 0 0]) (t:=41) ?hr ?_;(case hd=>rfl);(case hg=>rfl);(case hr=>first|(go_simp;done)|(go_simp;rfl));intro gb172 hg w22 hbox hb;replace HO_6:=zq.mk (Kd.zjv (Kd.su HO_6.out) hb);replace HO_9:=zq.mk (Kd.zjl (Kd.ru HO_9.out) hb);have BK172:=zq.mk (hbox);have GW172:=zq.mk ((by rw [hg];exact(zy bw):w.heap.size≤gb172));have GE172:=zq.mk ((by rw [hg];exact(zy bw):w.heap.size≤gb172));replace HB:=zq.mk (zt bw hb);clear hb hbox hg;obtain ⟨hcz23_0,hcz23_1,hcz23_2,hcz23_3,hcz23_4,hcz23_5,hcz23_6,hcz23_7,hfz23_0,hfz23_1,hfz23_2,hfz23_3,hfz23_4,hfz23_5,hfz23_6,hfz23_7⟩:=zqv BK172.out)|((with_reducible refine zl (f:=16) rfl ?_);refine qu (some 32) rfl rfl Tryd.func16 (by kernel_rfl) rfl #[.agg #[.int .i64 ((zg l1 x25_2).f0),.int .i64 ((zg l1 x25_2).f1.f0),.int .i64 ((zg l1 x25_2).f1.f1),.string ((zg l1 x25_2).f1.f2),.string ((zg l1 x25_2).f2),.string ((zg l1 x25_2).f3),.int .i64 ((zg l1 x25_2).f4),.slice A171_7 ((zg l1 x25_2).f5).length c171_7],.slice A170_0 (zqo l0 x19_1).length c170_0] rfl gs ?_;(with_reducible refine(zqb.calls k2 ((zg l1 x25_2).f0) ((zg l1 x25_2).f1.f0) ((zg l1 x25_2).f1.f1) ((zg l1 x25_2).f1.f2) ((zg l1 x25_2).f2) ((zg l1 x25_2).f3) ((zg l1 x25_2).f4) _ _ ((zg l1 x25_2).f5) _ _ (zqo l0 x19_1) t173 t174 t175 t176 _ ?side1 ?side2 ?side3 ?side4 ?side5 A12.out).mono ?_);(case side1=>exact Kd.zqj HR171_7.out bw);(case side2=>exact HC171_7.out);(case side3=>exact Kd.zqj HR170_0.out bw);(case side4=>exact HC170_0.out);(case side5=>exact LD.below HLD.out (by first|(with_reducible exact Below.refl _ _)|((repeat(first|(with_reducible exact Below.refl _ _)|(with_reducible apply zp)|(with_reducible apply qc)|(with_reducible apply zqa)));done)|exact bw));rintro e w24 ⟨rfl,hb⟩;refine⟨_,rfl,?_⟩;replace HO_6:=zq.mk (Kd.zjv (Kd.su (Kd.zj7 (Kd.zjo (p:=⟨gb172,7,none⟩) (Kd.zjo (p:=⟨gb172,6,none⟩) (Kd.zjo (p:=⟨gb172,5,none⟩) (Kd.zjo (p:=⟨gb172,4,none⟩) (Kd.zjo (p:=⟨gb172,3,none⟩) (Kd.zjo (p:=⟨gb172,2,none⟩) (Kd.zjo (p:=⟨gb172,1,none⟩) (Kd.zjo (p:=⟨gb172,0,none⟩) (Kd.S_types HO_6.out BK172.out (by decide)) (fun _ hk=>hk.2) (.int .i64 ((zg l1 x25_2).f0))) (fun _ hk=>hk.2) (.int .i64 ((zg l1 x25_2).f1.f0))) (fun _ hk=>hk.2) (.int .i64 ((zg l1 x25_2).f1.f1))) (fun _ hk=>hk.2) (.string ((zg l1 x25_2).f1.f2))) (fun _ hk=>hk.2) (.string ((zg l1 x25_2).f2))) (fun _ hk=>hk.2) (.string ((zg l1 x25_2).f3))) (fun _ hk=>hk.2) (.int .i64 ((zg l1 x25_2).f4))) (fun _ hk=>hk.2) (.slice A171_7 ((zg l1 x25_2).f5).length c171_7)) (fun _ h_=>h_.1))) hb);replace HO_9:=zq.mk (Kd.zjl (Kd.ru (Kd.zjd (Kd.zjj (p:=⟨gb172,7,none⟩) (Kd.zjj (p:=⟨gb172,6,none⟩) (Kd.zjj (p:=⟨gb172,5,none⟩) (Kd.zjj (p:=⟨gb172,4,none⟩) (Kd.zjj (p:=⟨gb172,3,none⟩) (Kd.zjj (p:=⟨gb172,2,none⟩) (Kd.zjj (p:=⟨gb172,1,none⟩) (Kd.zjj (p:=⟨gb172,0,none⟩) (Kd.zx4 HO_9.out BK172.out (by decide)) (fun _ hk=>hk.2) (.int .i64 ((zg l1 x25_2).f0))) (fun _ hk=>hk.2) (.int .i64 ((zg l1 x25_2).f1.f0))) (fun _ hk=>hk.2) (.int .i64 ((zg l1 x25_2).f1.f1))) (fun _ hk=>hk.2) (.string ((zg l1 x25_2).f1.f2))) (fun _ hk=>hk.2) (.string ((zg l1 x25_2).f2))) (fun _ hk=>hk.2) (.string ((zg l1 x25_2).f3))) (fun _ hk=>hk.2) (.int .i64 ((zg l1 x25_2).f4))) (fun _ hk=>hk.2) (.slice A171_7 ((zg l1 x25_2).f5).length c171_7)) (fun _ h_=>h_.1))) hb);replace BK172:=zq.mk (za (g:=gb172) (o:=.cells #[.int .i64 ((zg l1 x25_2).f0),.int .i64 ((zg l1 x25_2).f1.f0),.int .i64 ((zg l1 x25_2).f1.f1),.string ((zg l1 x25_2).f1.f2),.string ((zg l1 x25_2).f2),.string ((zg l1 x25_2).f3),.int .i64 ((zg l1 x25_2).f4),.slice A171_7 ((zg l1 x25_2).f5).length c171_7] 41 (0,0)) (by(with_reducible repeat(first|refine zh ?_ _|refine zc ?_|refine zv ?_ _));refine zr (cs:=#[.int .i64 ((zg l1 x25_2).f0),.int .i64 ((zg l1 x25_2).f1.f0),.int .i64 ((zg l1 x25_2).f1.f1),.string ((zg l1 x25_2).f1.f2),.string ((zg l1 x25_2).f2),.string ((zg l1 x25_2).f3),.int .i64 ((zg l1 x25_2).f4),.slice none 0 0]) ?_ 7 _ rfl;(with_reducible repeat(first|refine zh ?_ _|refine zc ?_|refine zv ?_ _));refine zr (cs:=#[.int .i64 ((zg l1 x25_2).f0),.int .i64 ((zg l1 x25_2).f1.f0),.int .i64 ((zg l1 x25_2).f1.f1),.string ((zg l1 x25_2).f1.f2),.string ((zg l1 x25_2).f2),.string ((zg l1 x25_2).f3),.int .i64 0,.slice none 0 0]) ?_ 6 _ rfl;(with_reducible repeat(first|refine zh ?_ _|refine zc ?_|refine zv ?_ _));refine zr (cs:=#[.int .i64 ((zg l1 x25_2).f0),.int .i64 ((zg l1 x25_2).f1.f0),.int .i64 ((zg l1 x25_2).f1.f1),.string ((zg l1 x25_2).f1.f2),.string ((zg l1 x25_2).f2),.string (⟨#[]⟩:ByteArray),.int .i64 0,.slice none 0 0]) ?_ 5 _ rfl;(with_reducible repeat(first|refine zh ?_ _|refine zc ?_|refine zv ?_ _));refine zr (cs:=#[.int .i64 ((zg l1 x25_2).f0),.int .i64 ((zg l1 x25_2).f1.f0),.int .i64 ((zg l1 x25_2).f1.f1),.string ((zg l1 x25_2).f1.f2),.string (⟨#[]⟩:ByteArray),.string (⟨#[]⟩:ByteArray),.int .i64 0,.slice none 0 0]) ?_ 4 _ rfl;(with_reducible repeat(first|refine zh ?_ _|refine zc ?_|refine zv ?_ _));refine zr (cs:=#[.int .i64 ((zg l1 x25_2).f0),.int .i64 ((zg l1 x25_2).f1.f0),.int .i64 ((zg l1 x25_2).f1.f1),.string (⟨#[]⟩:ByteArray),.string (⟨#[]⟩:ByteArray),.string (⟨#[]⟩:ByteArray),.int .i64 0,.slice none 0 0]) ?_ 3 _ rfl;(with_reducible repeat(first|refine zh ?_ _|refine zc ?_|refine zv ?_ _));refine zr (cs:=#[.int .i64 ((zg l1 x25_2).f0),.int .i64 ((zg l1 x25_2).f1.f0),.int .i64 0,.string (⟨#[]⟩:ByteArray),.string (⟨#[]⟩:ByteArray),.string (⟨#[]⟩:ByteArray),.int .i64 0,.slice none 0 0]) ?_ 2 _ rfl;(with_reducible repeat(first|refine zh ?_ _|refine zc ?_|refine zv ?_ _));refine zr (cs:=#[.int .i64 ((zg l1 x25_2).f0),.int .i64 0,.int .i64 0,.string (⟨#[]⟩:ByteArray),.string (⟨#[]⟩:ByteArray),.string (⟨#[]⟩:ByteArray),.int .i64 0,.slice none 0 0]) ?_ 1 _ rfl;(with_reducible repeat(first|refine zh ?_ _|refine zc ?_|refine zv ?_ _));refine zr (cs:=#[.int .i64 0,.int .i64 0,.int .i64 0,.string (⟨#[]⟩:ByteArray),.string (⟨#[]⟩:ByteArray),.string (⟨#[]⟩:ByteArray),.int .i64 0,.slice none 0 0]) ?_ 0 _ rfl;(with_reducible repeat(first|refine zh ?_ _|refine zc ?_|refine zv ?_ _));exact BK172.out) hb);replace HB:=zq.mk (zt bw hb);(try clear hb);(try clear hb2);(try clear hk);(try clear hi))|((with_reducible refine qo (N:=12) rfl ?_);refine qd ?hg (N:=12) ?hd (cs:=#[.int .i64 0,.int .i64 0,.string (⟨#[]⟩:ByteArray)]) (t:=38) ?hr ?_;(case hd=>rfl);(case hg=>rfl);(case hr=>first|(go_simp;done)|(go_simp;rfl));intro gb177 hg w25 hbox hb;replace HO_6:=zq.mk (Kd.zjv (Kd.zxx (Kd.su HO_6.out) gb177 (Nat.le_of_eq hg.symm)) hb);replace HO_9:=zq.mk (Kd.zjl (Kd.zxd (Kd.ru HO_9.out) gb177 (Nat.le_of_eq hg.symm)) hb);have BK177:=zq.mk (hbox);have GW177:=zq.mk ((by rw [hg];exact(zy bw):w.heap.size≤gb177));have GE177:=zq.mk ((by rw [hg];exact(zy bw):w.heap.size≤gb177));replace HB:=zq.mk (zt bw hb);have NB172_177:=zq.mk ((by rw [hg];exact Nat.ne_of_lt (qi (g:=gb172) (o:=.cells #[.int .i64 ((zg l1 x25_2).f0),.int .i64 ((zg l1 x25_2).f1.f0),.int .i64 ((zg l1 x25_2).f1.f1),.string ((zg l1 x25_2).f1.f2),.string ((zg l1 x25_2).f2),.string ((zg l1 x25_2).f3),.int .i64 ((zg l1 x25_2).f4),.slice A171_7 ((zg l1 x25_2).f5).length c171_7] 41 (0,0)) (up BK172.out)):gb172≠gb177));have NB177_172:=zq.mk ((by rw [hg];exact Nat.ne_of_gt (qi (g:=gb172) (o:=.cells #[.int .i64 ((zg l1 x25_2).f0),.int .i64 ((zg l1 x25_2).f1.f0),.int .i64 ((zg l1 x25_2).f1.f1),.string ((zg l1 x25_2).f1.f2),.string ((zg l1 x25_2).f2),.string ((zg l1 x25_2).f3),.int .i64 ((zg l1 x25_2).f4),.slice A171_7 ((zg l1 x25_2).f5).length c171_7] 41 (0,0)) (up BK172.out)):gb177≠gb172));replace BK172:=zq.mk (za (g:=gb172) (o:=.cells #[.int .i64 ((zg l1 x25_2).f0),.int .i64 ((zg l1 x25_2).f1.f0),.int .i64 ((zg l1 x25_2).f1.f1),.string ((zg l1 x25_2).f1.f2),.string ((zg l1 x25_2).f2),.string ((zg l1 x25_2).f3),.int .i64 ((zg l1 x25_2).f4),.slice A171_7 ((zg l1 x25_2).f5).length c171_7] 41 (0,0)) (up BK172.out) hb);clear hb hbox hg;have hnb26:=NB177_172.out;have hnc26:=NB172_177.out;obtain ⟨hcz27_0,hcz27_1,hcz27_2,hfz27_0,hfz27_1,hfz27_2⟩:=zb BK177.out))
            go_ret2
            exact⟨_,by first|rfl|(simp [zx,zj] <;> rfl)|(simp [*,zx,zj] <;> rfl),by first|exact Kd.S_nil _ _ _ _ _|exact Kd.N_nil _ _ _ _ _|exact Kd.V_nil _ _ _ _ _|exact Kd.Q_nil _ _ _ _ _|exact Kd.zx5 _ _ _ _ _,bw⟩
           rw [if_neg c11] at H
           exact absurd H (by simp)
          rw [if_neg c10] at H
          exact absurd H (by simp)
         rw [if_neg c9] at H
         have c9b0:=decide_eq_false c9
         clear c9
         by_cases c28:x6_1.length<5864062014805
         ·rw [if_pos c28] at H
          have LMc28:=zq.mk c28
          clear c28
          obtain ⟨y181,hy181⟩:∃ y_:List (List (S38)),y_=(x6_1 ++ [x9_2]):=⟨_,rfl⟩
          replace H:(zqg.l0 k2 l1 y181 l0 (l0.length:Int) (wrap64 (x19_1+1)))=some (r1,r2):=by first|(rw [hy181];with_reducible exact H)|(have H2_:=(Option.bind_some _ _).symm.trans H;rw [hy181];with_reducible exact H2_)|(have H2_:=(Option.bind_some _ _).symm.trans H;with_reducible exact H2_)|with_reducible exact H|(rw [hy181];exact H)|exact H
          have Ny181:=zq.mk hy181
          clear hy181
          have H':=zq.mk H
          clear H
          obtain ⟨Ao30,co30,eo30⟩:=Kd.R_slice HO_9.out
          subst eo30
          go_wp2_with (first|((with_reducible refine zxb (b:=.append) (xs:=#[.tmp 43,.tmp 45]) rfl ?_);at_builtin;refine Kd.S_append (Kd.slice 38 k38) (w0:=w) w.heap.size rfl (.tmp 43) (.tmp 45) 48 23 (.slice none 0 0) 24 rfl Tryd.underlying48 info23 rfl (by decide) (by omega) u6 x6_1 x9_2 [.slice Ao30 x9_2.length co30] (fun _=>True) (fun k_=>some k_=(.slice Ao30 x9_2.length co30:Value).ownBlock) rfl rfl ?aP (fun k_ hk_=>((Kd.zjd (ok':=fun k_=>((fun _=>True)) k_∧some k_≠(u6:Value).ownBlock) (Kd.zxy (HO_9.out) (Kd.S_typed HO_6.out) (by decide)) (fun k_ hk=>⟨trivial,hk.2⟩))).1 k_ hk_.symm) ?aF ?aO ?aB ?aS ?aL ?_;(case aP=>exact Kd.M_row (Kd.zjd (Kd.R_tight rfl (Kd.zjd (ok':=fun k_=>((fun _=>True)) k_∧some k_≠(u6:Value).ownBlock) (Kd.zxy (HO_9.out) (Kd.S_typed HO_6.out) (by decide)) (fun k_ hk=>⟨trivial,hk.2⟩))) (fun _ h_=>h_)));(case aB=>exact bw);(case aF=>exact(fun _ _=>trivial));(case aO=>exact(Kd.su (Kd.zj7 HO_6.out (fun k_ hk=>⟨trivial,fun e_=>hk e_⟩))));(case aS=>exact(zy bw));(case aL=>have:=LMc28.out;omega);intro v182 w29 ho hb hg hat;rw [← Ny181.out] at ho;replace HB:=zq.mk (hb);have HO183:=zq.mk (ho);clear HO_6 HO_9 ho hb hg hat))
          go_roundg k2
          case measure=>have:=HK1.out;have:=HK2.out;omega
          case rel=>exact⟨(y181),(wrap64 (x19_1+1)),vr,H',⟨by have:=HK1.out;have:=HK2.out;omega⟩,⟨by(with_reducible repeat(first|apply Kd.zxj|apply Kd.zxi|apply Kd.zxv));exact HO183.out⟩,⟨bw⟩⟩
         rw [if_neg c28] at H
         exact absurd H (by simp)
      rw [if_neg c8] at H
      exact absurd H (by simp)
     rw [if_neg c7] at H
     exact absurd H (by simp)
    rw [if_neg c6] at H
    have c6b0:=decide_eq_false c6
    clear c6
    simp only [Option.some.injEq,Prod.mk.injEq] at H
    obtain ⟨rfl,rfl⟩:=H
    go_wp2
    go_ret2
    exact⟨_,by first|rfl|(simp [zx,zj] <;> rfl)|(simp [*,zx,zj] <;> rfl),by(with_reducible repeat(first|apply Kd.zxj|apply Kd.zxi|apply Kd.zxv));exact HO_6.out,bw⟩
 replace c4:=Bool.eq_false_iff.mpr c4
 subst c4
 rw [if_neg (show ¬ (false=true) by decide)] at H
 simp only [Option.some.injEq,Prod.mk.injEq] at H
 obtain ⟨rfl,rfl⟩:=H
 go_enter Tryd.func24,Tryd.ntmps24
 go_wp2_with (first|((with_reducible refine zl (f:=50) rfl ?_);refine qu (some 15) rfl rfl Tryd.func50 (by kernel_rfl) rfl #[.slice A0 l0.length c0] rfl gs ?_;(with_reducible refine(zqu.calls k _ _ l0 false _ ?side1 ?side2 ?side3 A3.out).mono ?_);(case side1=>exact Kd.cu HR0.out);(case side2=>exact HC0.out);(case side3=>exact LD.below HLD.out (by first|(with_reducible exact Below.refl _ _)|((repeat(first|(with_reducible exact Below.refl _ _)|(with_reducible apply zp)|(with_reducible apply qc)|(with_reducible apply zqa)));done)|exact bw));rintro e w31 ⟨rfl,hb⟩;refine⟨_,rfl,?_⟩;replace HB:=zq.mk (zt bw hb);(try clear hb);(try clear hb2);(try clear hk);(try clear hi)))
 go_ret2
 exact⟨_,by first|rfl|(simp [zx,zj] <;> rfl)|(simp [*,zx,zj] <;> rfl),by first|exact Kd.S_nil _ _ _ _ _|exact Kd.N_nil _ _ _ _ _|exact Kd.V_nil _ _ _ _ _|exact Kd.Q_nil _ _ _ _ _|exact Kd.zx5 _ _ _ _ _,bw⟩

/-! ### qr: function 70 -/
mutual
def qr.l0:Nat→Int→Int→List (S41)→Int→Int→Option (Int)
 | 0,_,_,_,_,_=>none
 | k+1,x1,x5,x11,x12,x13=>if x13<x12 then(if 0≤x13 then(if x13<(x11.length:Int) then((qr.f k ((zg x11 x13).f0) ((zg x11 x13).f1.f0) ((zg x11 x13).f1.f1) ((zg x11 x13).f1.f2) ((zg x11 x13).f2) ((zg x11 x13).f3) ((zg x11 x13).f4) ((zg x11 x13).f5) (wrap64 (x1 - 1))).bind fun t187=>(qr.l0 k x1 (mx x5 t187) x11 x12 (wrap64 (x13+1)))) else (none)) else (none)) else (some (wrap64 (x5+1)))
def qr.f:Nat→Int→Int→Int→ByteArray→ByteArray→ByteArray→Int→List (S41)→Int→Option (Int)
 | 0,_,_,_,_,_,_,_,_,_=>none
 | k+1,a0_0,a0_1,a0_2,a0_3,a0_4,a0_5,a0_6,l0_7,a1=>if a1 > 0 then(qr.l0 k a1 0 l0_7 (l0_7.length:Int) 0) else (some (0+1))
end
theorem qr.mono_l:∀ k,(∀ y0 y1 y2 y3 y4 y5 y6 y7 y8,LeO (qr.f k y0 y1 y2 y3 y4 y5 y6 y7 y8) (qr.f (k+1) y0 y1 y2 y3 y4 y5 y6 y7 y8))∧(∀ y0 y1 y2 y3 y4,LeO (qr.l0 k y0 y1 y2 y3 y4) (qr.l0 (k+1) y0 y1 y2 y3 y4))
 | 0=>⟨fun _ _ _ _ _ _ _ _ _ r h=>by simp [qr.f] at h,fun _ _ _ _ _ r h=>by simp [qr.l0] at h⟩
 | k+1=>by
  obtain ⟨ih0,ih1⟩:=qr.mono_l k
  refine⟨?_,?_⟩
  ·intro y0 y1 y2 y3 y4 y5 y6 y7 y8
   unfold qr.f
   repeat' first
   | (with_reducible first|exact ih0 _ _ _ _ _ _ _ _ _|exact ih1 _ _ _ _ _|exact LeO.refl _|exact LeO.none _|refine LeO.ite ?_ ?_|refine LeO.bind ?_ (fun _=>?_))
   | exact ih0 _ _ _ _ _ _ _ _ _
   | exact ih1 _ _ _ _ _
   | exact LeO.none _
   | refine LeO.ite ?_ ?_
   | refine LeO.bind ?_ (fun _=>?_)
  intro y0 y1 y2 y3 y4
  unfold qr.l0
  repeat' first
  | (with_reducible first|exact ih0 _ _ _ _ _ _ _ _ _|exact ih1 _ _ _ _ _|exact LeO.refl _|exact LeO.none _|refine LeO.ite ?_ ?_|refine LeO.bind ?_ (fun _=>?_))
  | exact ih0 _ _ _ _ _ _ _ _ _
  | exact ih1 _ _ _ _ _
  | exact LeO.none _
  | refine LeO.ite ?_ ?_
  | refine LeO.bind ?_ (fun _=>?_)
theorem qr.mono:∀ a0 a1 a2 a3 a4 a5 a6 a7 a8 k,LeO (qr.f k a0 a1 a2 a3 a4 a5 a6 a7 a8) (qr.f (k+1) a0 a1 a2 a3 a4 a5 a6 a7 a8):=by
 intro a0 a1 a2 a3 a4 a5 a6 a7 a8 k
 obtain ⟨ih0,ih1⟩:=qr.mono_l k
 exact ih0 a0 a1 a2 a3 a4 a5 a6 a7 a8
set_option maxHeartbeats 8000000 in
set_option maxRecDepth 100000 in
theorem qr.calls (k:Nat):∀ (a0_0:Int) (a0_1:Int) (a0_2:Int) (a0_3:ByteArray) (a0_4:ByteArray) (a0_5:ByteArray) (a0_6:Int) (A0_7:Option Addr) (c0_7:Nat) (l0_7:List (S41)) (a1:Int) (r:Int) (w:World) (hr0_7:Kd.C k41 w A0_7 l0_7.length l0_7) (hc0_7:l0_7.length≤c0_7) (h:qr.f k a0_0 a0_1 a0_2 a0_3 a0_4 a0_5 a0_6 l0_7 a1=some r),
  Calls Tryd.prog 70 #[.agg #[.int .i64 a0_0,.int .i64 a0_1,.int .i64 a0_2,.string a0_3,.string a0_4,.string a0_5,.int .i64 a0_6,.slice A0_7 l0_7.length c0_7],.int .i64 a1] w fun e w'=>e = .returned (.int .i64 r)∧Below w.heap.size w w':=by
 induction k using Nat.strongRecOn with
 | _ k ih=>
 intro a0_0 a0_1 a0_2 a0_3 a0_4 a0_5 a0_6 A0_7 c0_7 l0_7 a1 r w hr0_7 hc0_7 h
 cases k with
 | zero=>exact absurd h (by simp [qr.f])
 | succ k=>
 simp only [qr.f] at h
 have hu41:=Tryd.underlying41
 have HR0_7:=zq.mk hr0_7
 have HC0_7:=zq.mk hc0_7
 clear hr0_7 hc0_7
 have HB:=zq.mk (Below.refl w.heap.size w)
 have H:(if a1 > 0 then(qr.l0 k a1 0 l0_7 (l0_7.length:Int) 0) else (some (0+1)))=some r:=h
 clear h
 by_cases c3:a1 > 0
 ·rw [if_pos c3] at H
  have c3b0:=decide_eq_true c3
  clear c3
  have H':=zq.mk H
  clear H
  go_enter Tryd.func70,Tryd.ntmps70
  go_wp2_with (first|((with_reducible refine qo (N:=2) rfl ?_);refine qd ?hg (N:=2) ?hd (cs:=#[.int .i64 a0_0,.int .i64 a0_1,.int .i64 a0_2,.string a0_3,.string a0_4,.string a0_5,.int .i64 a0_6,.slice A0_7 l0_7.length c0_7]) (t:=41) ?hr ?_;(case hd=>rfl);(case hg=>rfl);(case hr=>first|(go_simp;done)|(go_simp;rfl));intro gb184 hg w4 hbox hb;have BK184:=zq.mk (hbox);have GW184:=zq.mk ((by rw [hg];exact(zy bw):w.heap.size≤gb184));have GE184:=zq.mk ((by rw [hg];exact(zy bw):w.heap.size≤gb184));replace HB:=zq.mk (zt bw hb);clear hb hbox hg;obtain ⟨hcz5_0,hcz5_1,hcz5_2,hcz5_3,hcz5_4,hcz5_5,hcz5_6,hcz5_7,hfz5_0,hfz5_1,hfz5_2,hfz5_3,hfz5_4,hfz5_5,hfz5_6,hfz5_7⟩:=zqv BK184.out))
  go_loopg [5,13] k (fun kq v5 v13 w' => ∃ (x5_1:Int) (x13_1:Int),v5 = .int .i64 x5_1∧v13 = .int .i64 x13_1∧zq (qr.l0 kq a1 x5_1 l0_7 (l0_7.length:Int) x13_1=some r)∧zq (kq≤k)∧zq (w'.heap[gb184]? = some (.cells #[.int .i64 a0_0,.int .i64 a0_1,.int .i64 a0_2,.string a0_3,.string a0_4,.string a0_5,.int .i64 a0_6,(.slice A0_7 l0_7.length c0_7)] 41 (0,0)))∧zq (Below w.heap.size w w'))
  case atStart=>exact⟨(0),(0),vr,vr,H',⟨Nat.le_refl _⟩,⟨by(with_reducible repeat(first|refine zh ?_ _|refine zc ?_|refine zv ?_ _));exact BK184.out⟩,⟨bw⟩⟩
  case round=>
   clear H'
   (try clear c3);(try clear c3b0);(try clear hcz5_0);(try clear hcz5_1);(try clear hcz5_2);(try clear hcz5_3);(try clear hcz5_4);(try clear hcz5_5);(try clear hcz5_6);(try clear hcz5_7);(try clear hfz5_0);(try clear hfz5_1);(try clear hfz5_2);(try clear hfz5_3);(try clear hfz5_4);(try clear hfz5_5);(try clear hfz5_6);(try clear hfz5_7)
   (try clear BK184)
   obtain ⟨x5_1,x13_1,rfl,rfl,HA,HK1,BK184,HB⟩:=hrel
   cases gk with
   | zero=>exact absurd HA.out (by simp [qr.l0])
   | succ k1=>
    have H:=HA.out
    clear HA
    simp only [qr.l0] at H
    by_cases c6:x13_1<(l0_7.length:Int)
    ·rw [if_pos c6] at H
     have c6b0:=decide_eq_true c6
     clear c6
     by_cases c7:0≤x13_1
     ·rw [if_pos c7] at H
      have c7b0:=decide_eq_true c7
      clear c7
      by_cases c8:x13_1<(l0_7.length:Int)
      ·rw [if_pos c8] at H
       have c8b0:=decide_eq_true c8
       clear c8
       replace H:=Option.bind_eq_some_iff.mp H
       obtain ⟨t187,A90,H⟩:=H
       replace H:(qr.l0 k1 a1 (mx x5_1 t187) l0_7 (l0_7.length:Int) (wrap64 (x13_1+1)))=some r:=H
       have A9:=zq.mk A90
       clear A90
       obtain ⟨ji10,hji10⟩:∃ j_:Int,(mx x5_1 t187)=j_:=⟨_,rfl⟩
       replace H:(qr.l0 k1 a1 ji10 l0_7 (l0_7.length:Int) (wrap64 (x13_1+1)))=some r:=by first|(rw [hji10] at H;exact H)|(simp only [hji10] at H ⊢;exact H)
       (try rw [hji10] at A9)
       have hji10_:(if x5_1<t187 then t187 else x5_1)=ji10:=hji10
       have H':=zq.mk H
       clear H
       have p185:0≤(x13_1:Int):=dt
       have q185:x13_1<(l0_7.length:Int):=dt
       obtain ⟨ad185,A185_7,c185_7,e185,hx185_0,hx185_1,hx185_2,hx185_3,hx185_4,hx185_5,hx185_6,hx185_7,hl185_7,hi185_7⟩:=zxh HR0_7.out x13_1 p185 q185
       cases e185
       replace hx185_0:=(HB.out.cell (World.block_lt_of_cell? w _ hx185_0)).trans hx185_0
       replace hx185_1:=(HB.out.cell (World.block_lt_of_cell? w _ hx185_1)).trans hx185_1
       replace hx185_2:=(HB.out.cell (World.block_lt_of_cell? w _ hx185_2)).trans hx185_2
       replace hx185_3:=(HB.out.cell (World.block_lt_of_cell? w _ hx185_3)).trans hx185_3
       replace hx185_4:=(HB.out.cell (World.block_lt_of_cell? w _ hx185_4)).trans hx185_4
       replace hx185_5:=(HB.out.cell (World.block_lt_of_cell? w _ hx185_5)).trans hx185_5
       replace hx185_6:=(HB.out.cell (World.block_lt_of_cell? w _ hx185_6)).trans hx185_6
       replace hx185_7:=(HB.out.cell (World.block_lt_of_cell? w _ hx185_7)).trans hx185_7
       have HR185_7:=zq.mk hi185_7
       have HC185_7:=zq.mk hl185_7
       clear hi185_7 hl185_7
       replace p185:=eq_true p185
       replace q185:=eq_true q185
       go_wp2_with (first|((with_reducible refine qo (N:=7) rfl ?_);refine qd ?hg (N:=7) ?hd (cs:=#[.int .i64 0,.int .i64 0,.int .i64 0,.string (⟨#[]⟩:ByteArray),.string (⟨#[]⟩:ByteArray),.string (⟨#[]⟩:ByteArray),.int .i64 0,.slice none 0 0]) (t:=41) ?hr ?_;(case hd=>rfl);(case hg=>rfl);(case hr=>first|(go_simp;done)|(go_simp;rfl));intro gb186 hg w11 hbox hb;have BK186:=zq.mk (hbox);have GW186:=zq.mk ((by rw [hg];exact(zy bw):w.heap.size≤gb186));have GE186:=zq.mk ((by rw [hg];exact(zy bw):w.heap.size≤gb186));replace HB:=zq.mk (zt bw hb);have NB184_186:=zq.mk ((by rw [hg];exact Nat.ne_of_lt (qi (g:=gb184) (o:=.cells #[.int .i64 a0_0,.int .i64 a0_1,.int .i64 a0_2,.string a0_3,.string a0_4,.string a0_5,.int .i64 a0_6,.slice (some ad185) l0_7.length c0_7] 41 (0,0)) (up BK184.out)):gb184≠gb186));have NB186_184:=zq.mk ((by rw [hg];exact Nat.ne_of_gt (qi (g:=gb184) (o:=.cells #[.int .i64 a0_0,.int .i64 a0_1,.int .i64 a0_2,.string a0_3,.string a0_4,.string a0_5,.int .i64 a0_6,.slice (some ad185) l0_7.length c0_7] 41 (0,0)) (up BK184.out)):gb186≠gb184));replace BK184:=zq.mk (za (g:=gb184) (o:=.cells #[.int .i64 a0_0,.int .i64 a0_1,.int .i64 a0_2,.string a0_3,.string a0_4,.string a0_5,.int .i64 a0_6,.slice (some ad185) l0_7.length c0_7] 41 (0,0)) (up BK184.out) hb);clear hb hbox hg;have hnb12:=NB186_184.out;have hnc12:=NB184_186.out;obtain ⟨hcz13_0,hcz13_1,hcz13_2,hcz13_3,hcz13_4,hcz13_5,hcz13_6,hcz13_7,hfz13_0,hfz13_1,hfz13_2,hfz13_3,hfz13_4,hfz13_5,hfz13_6,hfz13_7⟩:=zqv BK186.out)|((with_reducible refine zl (f:=70) rfl ?_);refine qu (some 21) rfl rfl Tryd.func70 (by kernel_rfl) rfl #[.agg #[.int .i64 ((zg l0_7 x13_1).f0),.int .i64 ((zg l0_7 x13_1).f1.f0),.int .i64 ((zg l0_7 x13_1).f1.f1),.string ((zg l0_7 x13_1).f1.f2),.string ((zg l0_7 x13_1).f2),.string ((zg l0_7 x13_1).f3),.int .i64 ((zg l0_7 x13_1).f4),.slice A185_7 ((zg l0_7 x13_1).f5).length c185_7],.int .i64 (wrap64 (a1 - 1))] rfl gs ?_;(with_reducible refine(ih k1 (by have:=HK1.out;omega) ((zg l0_7 x13_1).f0) ((zg l0_7 x13_1).f1.f0) ((zg l0_7 x13_1).f1.f1) ((zg l0_7 x13_1).f1.f2) ((zg l0_7 x13_1).f2) ((zg l0_7 x13_1).f3) ((zg l0_7 x13_1).f4) _ _ ((zg l0_7 x13_1).f5) (wrap64 (a1 - 1)) t187 _ ?side1 ?side2 A9.out).mono ?_);(case side1=>exact Kd.zqj HR185_7.out bw);(case side2=>exact HC185_7.out);rintro e w14 ⟨rfl,hb⟩;refine⟨_,rfl,?_⟩;replace BK184:=zq.mk (za (g:=gb184) (o:=.cells #[.int .i64 a0_0,.int .i64 a0_1,.int .i64 a0_2,.string a0_3,.string a0_4,.string a0_5,.int .i64 a0_6,.slice (some ad185) l0_7.length c0_7] 41 (0,0)) (by(with_reducible repeat(first|refine zh ?_ _|refine zc ?_|refine zv ?_ _));refine zqy ?_ NB184_186.out _;(with_reducible repeat(first|refine zh ?_ _|refine zc ?_|refine zv ?_ _));refine zqy ?_ NB184_186.out _;(with_reducible repeat(first|refine zh ?_ _|refine zc ?_|refine zv ?_ _));refine zqy ?_ NB184_186.out _;(with_reducible repeat(first|refine zh ?_ _|refine zc ?_|refine zv ?_ _));refine zqy ?_ NB184_186.out _;(with_reducible repeat(first|refine zh ?_ _|refine zc ?_|refine zv ?_ _));refine zqy ?_ NB184_186.out _;(with_reducible repeat(first|refine zh ?_ _|refine zc ?_|refine zv ?_ _));refine zqy ?_ NB184_186.out _;(with_reducible repeat(first|refine zh ?_ _|refine zc ?_|refine zv ?_ _));refine zqy ?_ NB184_186.out _;(with_reducible repeat(first|refine zh ?_ _|refine zc ?_|refine zv ?_ _));refine zqy ?_ NB184_186.out _;(with_reducible repeat(first|refine zh ?_ _|refine zc ?_|refine zv ?_ _));exact BK184.out) hb);replace BK186:=zq.mk (za (g:=gb186) (o:=.cells #[.int .i64 ((zg l0_7 x13_1).f0),.int .i64 ((zg l0_7 x13_1).f1.f0),.int .i64 ((zg l0_7 x13_1).f1.f1),.string ((zg l0_7 x13_1).f1.f2),.string ((zg l0_7 x13_1).f2),.string ((zg l0_7 x13_1).f3),.int .i64 ((zg l0_7 x13_1).f4),.slice A185_7 ((zg l0_7 x13_1).f5).length c185_7] 41 (0,0)) (by(with_reducible repeat(first|refine zh ?_ _|refine zc ?_|refine zv ?_ _));refine zr (cs:=#[.int .i64 ((zg l0_7 x13_1).f0),.int .i64 ((zg l0_7 x13_1).f1.f0),.int .i64 ((zg l0_7 x13_1).f1.f1),.string ((zg l0_7 x13_1).f1.f2),.string ((zg l0_7 x13_1).f2),.string ((zg l0_7 x13_1).f3),.int .i64 ((zg l0_7 x13_1).f4),.slice none 0 0]) ?_ 7 _ rfl;(with_reducible repeat(first|refine zh ?_ _|refine zc ?_|refine zv ?_ _));refine zr (cs:=#[.int .i64 ((zg l0_7 x13_1).f0),.int .i64 ((zg l0_7 x13_1).f1.f0),.int .i64 ((zg l0_7 x13_1).f1.f1),.string ((zg l0_7 x13_1).f1.f2),.string ((zg l0_7 x13_1).f2),.string ((zg l0_7 x13_1).f3),.int .i64 0,.slice none 0 0]) ?_ 6 _ rfl;(with_reducible repeat(first|refine zh ?_ _|refine zc ?_|refine zv ?_ _));refine zr (cs:=#[.int .i64 ((zg l0_7 x13_1).f0),.int .i64 ((zg l0_7 x13_1).f1.f0),.int .i64 ((zg l0_7 x13_1).f1.f1),.string ((zg l0_7 x13_1).f1.f2),.string ((zg l0_7 x13_1).f2),.string (⟨#[]⟩:ByteArray),.int .i64 0,.slice none 0 0]) ?_ 5 _ rfl;(with_reducible repeat(first|refine zh ?_ _|refine zc ?_|refine zv ?_ _));refine zr (cs:=#[.int .i64 ((zg l0_7 x13_1).f0),.int .i64 ((zg l0_7 x13_1).f1.f0),.int .i64 ((zg l0_7 x13_1).f1.f1),.string ((zg l0_7 x13_1).f1.f2),.string (⟨#[]⟩:ByteArray),.string (⟨#[]⟩:ByteArray),.int .i64 0,.slice none 0 0]) ?_ 4 _ rfl;(with_reducible repeat(first|refine zh ?_ _|refine zc ?_|refine zv ?_ _));refine zr (cs:=#[.int .i64 ((zg l0_7 x13_1).f0),.int .i64 ((zg l0_7 x13_1).f1.f0),.int .i64 ((zg l0_7 x13_1).f1.f1),.string (⟨#[]⟩:ByteArray),.string (⟨#[]⟩:ByteArray),.string (⟨#[]⟩:ByteArray),.int .i64 0,.slice none 0 0]) ?_ 3 _ rfl;(with_reducible repeat(first|refine zh ?_ _|refine zc ?_|refine zv ?_ _));refine zr (cs:=#[.int .i64 ((zg l0_7 x13_1).f0),.int .i64 ((zg l0_7 x13_1).f1.f0),.int .i64 0,.string (⟨#[]⟩:ByteArray),.string (⟨#[]⟩:ByteArray),.string (⟨#[]⟩:ByteArray),.int .i64 0,.slice none 0 0]) ?_ 2 _ rfl;(with_reducible repeat(first|refine zh ?_ _|refine zc ?_|refine zv ?_ _));refine zr (cs:=#[.int .i64 ((zg l0_7 x13_1).f0),.int .i64 0,.int .i64 0,.string (⟨#[]⟩:ByteArray),.string (⟨#[]⟩:ByteArray),.string (⟨#[]⟩:ByteArray),.int .i64 0,.slice none 0 0]) ?_ 1 _ rfl;(with_reducible repeat(first|refine zh ?_ _|refine zc ?_|refine zv ?_ _));refine zr (cs:=#[.int .i64 0,.int .i64 0,.int .i64 0,.string (⟨#[]⟩:ByteArray),.string (⟨#[]⟩:ByteArray),.string (⟨#[]⟩:ByteArray),.int .i64 0,.slice none 0 0]) ?_ 0 _ rfl;(with_reducible repeat(first|refine zh ?_ _|refine zc ?_|refine zv ?_ _));exact BK186.out) hb);replace HB:=zq.mk (zt bw hb);(try clear hb);(try clear hb2);(try clear hk);(try clear hi)))
       go_roundg k1
       case measure=>have:=HK1.out;omega
       case rel=>exact⟨(ji10),(wrap64 (x13_1+1)),(by first|rfl|(simp;done)|(simp only [← hji10] <;> (first|rfl|simp))|(simp [*];done)|(generalize ByteArray.toList _=q_;cases q_ <;> rfl)),vr,H',⟨by have:=HK1.out;omega⟩,⟨by(with_reducible repeat(first|refine zh ?_ _|refine zc ?_|refine zv ?_ _));exact BK184.out⟩,⟨bw⟩⟩
      rw [if_neg c8] at H
      exact absurd H (by simp)
     rw [if_neg c7] at H
     exact absurd H (by simp)
    rw [if_neg c6] at H
    have c6b0:=decide_eq_false c6
    clear c6
    obtain rfl:=Option.some.inj H
    go_wp2
    go_ret
    exact⟨by first|rfl|(simp [zx,zj] <;> rfl)|(simp [*,zx,zj] <;> rfl),bw⟩
 rw [if_neg c3] at H
 have c3b0:=decide_eq_false c3
 clear c3
 obtain rfl:=Option.some.inj H
 go_enter Tryd.func70,Tryd.ntmps70
 go_wp2_with (first|((with_reducible refine qo (N:=2) rfl ?_);refine qd ?hg (N:=2) ?hd (cs:=#[.int .i64 a0_0,.int .i64 a0_1,.int .i64 a0_2,.string a0_3,.string a0_4,.string a0_5,.int .i64 a0_6,.slice A0_7 l0_7.length c0_7]) (t:=41) ?hr ?_;(case hd=>rfl);(case hg=>rfl);(case hr=>first|(go_simp;done)|(go_simp;rfl));intro gb184 hg w15 hbox hb;have BK184:=zq.mk (hbox);have GW184:=zq.mk ((by rw [hg];exact(zy bw):w.heap.size≤gb184));have GE184:=zq.mk ((by rw [hg];exact(zy bw):w.heap.size≤gb184));replace HB:=zq.mk (zt bw hb);clear hb hbox hg))
 go_ret
 exact⟨by first|rfl|(simp [zx,zj] <;> rfl)|(simp [*,zx,zj] <;> rfl),bw⟩

end Go.Proofs.YthhejedfjgikdaaDoor.PRelProjects
