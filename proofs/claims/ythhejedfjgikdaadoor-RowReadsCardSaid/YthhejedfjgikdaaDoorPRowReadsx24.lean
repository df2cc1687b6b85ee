-- Written by wip/pp of this repo (over the kit's print, with additions of this session); Lean checks every line.
import Derived.Test.YthhejedfjgikdaaDoorPRowReadsx18
import Derived.Test.YthhejedfjgikdaaDoorPRowReadsx22
import Derived.Test.YthhejedfjgikdaaDoorPRowReadsx23
namespace Go.Proofs.YthhejedfjgikdaaDoor.PRowReads
open Go.RowKit Go.Proofs.YthhejedfjgikdaaDoorW.PrintWords Go.Proofs.YthhejedfjgikdaaDoorW.PrintLast Go.Proofs.YthhejedfjgikdaaDoorW.PrintMore
attribute [local go_sem] zjo zjm zjw zjv zja zq9 zjn zjl   -- for this text's walks alone
set_option linter.unusedVariables false
set_option linter.unusedSimpArgs false

attribute [local go_sem high] eqA38
/-! ### qt: function 36 -/
def qt.l0:Nat→List Int→List (S38)→Int→Option ((List (S38)) × Int × Int)
 | 0,_,_,_=>none
 | k+1,x0,x5,x6=>if x6<(x0.length:Int) then(if(x5.length:Int) ≥ 14 then(some (([]:List (S38)),x6,1)) else (if 0≤x6 then(if x6≤(x0.length:Int) then((zo.f k (x0.drop (x6:Int).toNat)).bind fun bt354=>(if bt354.2.2.2.2=0 then(if x5.length<4398046511104 then(qt.l0 k x0 (x5 ++ [(⟨bt354.1,bt354.2.1,bt354.2.2.1⟩:S38)]) (wrap64 (x6+bt354.2.2.2.1))) else (none)) else (some (([]:List (S38)),x6,bt354.2.2.2.2)))) else (none)) else (none))) else (some (x5,0,0))
def qt.f (k:Nat) (l0:List Int):Option ((List (S38)) × Int × Int):=if(l0.length:Int) > 1200 then(some (([]:List (S38)),0,1)) else (qt.l0 k l0 ([]:List (S38)) 0)
theorem qt.mono_l:∀ k,(∀ y0 y1 y2,LeO (qt.l0 k y0 y1 y2) (qt.l0 (k+1) y0 y1 y2))
 | 0=>fun _ _ _ r h=>by simp [qt.l0] at h
 | k+1=>by
  have ih0:=qt.mono_l k
  intro y0 y1 y2
  unfold qt.l0
  repeat' first
  | (with_reducible first|exact ih0 _ _ _|exact zo.mono _ _|exact LeO.refl _|exact LeO.none _|refine LeO.ite ?_ ?_|refine LeO.bind ?_ (fun _=>?_))
  | exact ih0 _ _ _
  | exact zo.mono _ _
  | exact LeO.none _
  | refine LeO.ite ?_ ?_
  | refine LeO.bind ?_ (fun _=>?_)
theorem qt.mono:∀ a0 k,LeO (qt.f k a0) (qt.f (k+1) a0):=by
 intro a0 k
 have ih0:=qt.mono_l k
 unfold qt.f
 repeat' first
   | (with_reducible first|exact ih0 _ _ _|exact zo.mono _ _|exact LeO.refl _|exact LeO.none _|refine LeO.ite ?_ ?_|refine LeO.bind ?_ (fun _=>?_))
   | exact ih0 _ _ _
   | exact zo.mono _ _
   | exact LeO.none _
   | refine LeO.ite ?_ ?_
   | refine LeO.bind ?_ (fun _=>?_)
set_option maxHeartbeats 8000000 in
set_option maxRecDepth 100000 in
theorem qt.calls (k:Nat) (A0:Option Addr) (c0:Nat) (l0:List Int) (r1:List (S38)) (r2:Int) (r3:Int) (w:World) (hr0:Kd.C (Kd.int .u8) w A0 l0.length l0) (hc0:l0.length≤c0) (h:qt.f k l0=some (r1,r2,r3)) :
  Calls Tryd.prog 36 #[.slice A0 l0.length c0] w fun e w' => ∃ v0_:Value,e = .returned (.tuple #[v0_,.int .i64 r2,.int .i64 r3])∧Kd.R k38 38 w' w.heap.size (fun _=>True) v0_ r1∧Below w.heap.size w w':=by
 have hu38:=Tryd.underlying38
 have HR0:=zq.mk hr0
 have HC0:=zq.mk hc0
 clear hr0 hc0
 have HB:=zq.mk (Below.refl w.heap.size w)
 have H:(if(l0.length:Int) > 1200 then(some (([]:List (S38)),0,1)) else (qt.l0 k l0 ([]:List (S38)) 0))=some (r1,r2,r3):=h
 clear h
 by_cases c2:(l0.length:Int) > 1200
 ·rw [if_pos c2] at H
  have c2b0:=decide_eq_true c2
  have c2b1:decide (1200<l0.length)=true:=decide_eq_true (by omega)
  clear c2
  simp only [Option.some.injEq,Prod.mk.injEq] at H
  obtain ⟨rfl,rfl,rfl⟩:=H
  go_enter Tryd.func36,Tryd.ntmps36
  go_wp2
  go_ret3
  exact⟨_,by first|rfl|(simp [zg,zy] <;> rfl)|(simp [*,zg,zy] <;> rfl),by first|exact Kd.zxf _ _ _ _ _|exact Kd.zx4 _ _ _ _ _|exact Kd.zxl _ _ _ _ _|exact Kd.zx3 _ _ _ _ _|exact Kd.zx2 _ _ _ _ _,bw⟩
 rw [if_neg c2] at H
 have c2b0:=decide_eq_false c2
 have c2b1:decide (1200<l0.length)=false:=decide_eq_false (by omega)
 clear c2
 have H':=zq.mk H
 clear H
 go_enter Tryd.func36,Tryd.ntmps36
 go_wp2
 go_loopg [5,6] k (fun kq v5 v6 w' => ∃ (x5_1:List (S38)) (x6_1:Int),v6 = .int .i64 x6_1∧zq (qt.l0 kq l0 x5_1 x6_1=some (r1,r2,r3))∧zq (kq≤k)∧zq (Kd.R k38 38 w' w.heap.size (fun _=>True) v5 x5_1)∧zq (Below w.heap.size w w'))
 case atStart=>exact⟨(([]:List (S38))),(0),vr,H',⟨Nat.le_refl _⟩,⟨by first|exact Kd.zxf _ _ _ _ _|exact Kd.zx4 _ _ _ _ _|exact Kd.zxl _ _ _ _ _|exact Kd.zx3 _ _ _ _ _|exact Kd.zx2 _ _ _ _ _⟩,⟨bw⟩⟩
 case round=>
  clear H'
  (try clear c2);(try clear c2b0);(try clear c2b1)
  obtain ⟨x5_1,x6_1,rfl,HA,HK1,HO_5,HB⟩:=hrel
  cases gk with
  | zero=>exact absurd HA.out (by simp [qt.l0])
  | succ k1=>
   have H:=HA.out
   clear HA
   simp only [qt.l0] at H
   by_cases c3:x6_1<(l0.length:Int)
   ·rw [if_pos c3] at H
    have c3b0:=decide_eq_true c3
    clear c3
    by_cases c4:(x5_1.length:Int) ≥ 14
    ·rw [if_pos c4] at H
     have c4b0:=decide_eq_true c4
     have c4b1:decide (14≤x5_1.length)=true:=decide_eq_true (by omega)
     clear c4
     simp only [Option.some.injEq,Prod.mk.injEq] at H
     obtain ⟨rfl,rfl,rfl⟩:=H
     obtain ⟨Ao5,co5,eo5⟩:=Kd.zje HO_5.out
     subst eo5
     go_wp2
     go_ret3
     exact⟨_,by first|rfl|(simp [zg,zy] <;> rfl)|(simp [*,zg,zy] <;> rfl),by first|exact Kd.zxf _ _ _ _ _|exact Kd.zx4 _ _ _ _ _|exact Kd.zxl _ _ _ _ _|exact Kd.zx3 _ _ _ _ _|exact Kd.zx2 _ _ _ _ _,bw⟩
    rw [if_neg c4] at H
    have c4b0:=decide_eq_false c4
    have c4b1:decide (14≤x5_1.length)=false:=decide_eq_false (by omega)
    clear c4
    by_cases c6:0≤x6_1
    ·rw [if_pos c6] at H
     have c6b0:=eq_true c6
     have c6b1:=decide_eq_true c6
     clear c6
     by_cases c7:x6_1≤(l0.length:Int)
     ·rw [if_pos c7] at H
      have c7b0:=eq_true c7
      have c7b1:=decide_eq_true c7
      clear c7
      replace H:=Option.bind_eq_some_iff.mp H
      obtain ⟨⟨t354,t355,t356,t357,t358⟩,A80,H⟩:=H
      replace H:(if t358=0 then(if x5_1.length<4398046511104 then(qt.l0 k1 l0 (x5_1 ++ [(⟨t354,t355,t356⟩:S38)]) (wrap64 (x6_1+t357))) else (none)) else (some (([]:List (S38)),x6_1,t358)))=some (r1,r2,r3):=H
      have A8:=zq.mk A80
      clear A80
      by_cases c9:t358=0
      ·rw [if_pos c9] at H
       have c9b0:(t358 == 0)=true:=beq_iff_eq.mpr c9
       have c9b1:(t358 != 0)=false:=bne_eq_false_iff_eq.mpr c9
       clear c9
       by_cases c10:x5_1.length<4398046511104
       ·rw [if_pos c10] at H
        have LMc10:=zq.mk c10
        clear c10
        obtain ⟨y360,hy360⟩:∃ y_:List (S38),y_=(x5_1 ++ [(⟨t354,t355,t356⟩:S38)]):=⟨_,rfl⟩
        replace H:(qt.l0 k1 l0 y360 (wrap64 (x6_1+t357)))=some (r1,r2,r3):=by first|(rw [hy360];with_reducible exact H)|(have H2_:=(Option.bind_some _ _).symm.trans H;rw [hy360];with_reducible exact H2_)|(have H2_:=(Option.bind_some _ _).symm.trans H;with_reducible exact H2_)|with_reducible exact H|(rw [hy360];exact H)|exact H
        have Ny360:=zq.mk hy360
        clear hy360
        have H':=zq.mk H
        clear H
        obtain ⟨Ao11,co11,eo11⟩:=Kd.zje HO_5.out
        subst eo11
        obtain ⟨i012,hi012,_,hsz12,_⟩:=info_parts zxr
        obtain ⟨A12,hcut12,hA12,hC12⟩:=zvb (P:=Tryd.prog) (Value.int .u8) 0 30 5 .i64 Tryd.underlying30 hi012 hsz12 A0 c0 l0 x6_1 (dt) (dt) HC0.out
        have HR353:=zq.mk (Kd.zk3 (h1:=fun _=>rfl) (hA12 _ (Kd.zxw HR0.out)))
        have HC353:=zq.mk hC12
        clear hA12 hC12 hi012 hsz12
        go_wp2_with (first|((with_reducible refine qh (f:=66) rfl ?_);refine zqn (some 25) rfl rfl Tryd.func66 (by kernel_rfl) rfl #[.slice A12 (l0.drop (x6_1:Int).toNat).length (c0 - x6_1.toNat)] rfl (by(try simp only [List.map_toArray,List.map_cons,List.map_nil]);first|done|(rw [show(l0.drop (x6_1:Int).toNat).length=(l0.length - x6_1.toNat) from List.length_drop] <;> rfl)|rfl|(simp only [List.length_drop,List.length_take];rfl)) ?_;(with_reducible refine(zo.calls k1 _ _ (l0.drop (x6_1:Int).toNat) t354 t355 t356 t357 t358 _ ?side1 ?side2 A8.out).mono ?_);(case side1=>exact Kd.cu (Kd.qu HR353.out HB.out));(case side2=>exact HC353.out);rintro e w13 ⟨rfl,hb⟩;refine⟨_,rfl,?_⟩;replace HO_5:=zq.mk (Kd.zq4 (Kd.ru HO_5.out) hb);replace HB:=zq.mk (zn bw hb);(try clear hb);(try clear hb2);(try clear hk);(try clear hi))|((with_reducible refine qr (N:=7) rfl ?_);refine qm ?hg (N:=7) ?hd (cs:=#[.int .i64 0,.int .i64 0,.string (⟨#[]⟩:ByteArray)]) (t:=38) ?hr ?_;(case hd=>rfl);(case hg=>rfl);(case hr=>first|(go_simp;done)|(go_simp;rfl));intro gb359 hg w14 hbox hb;replace HO_5:=zq.mk (Kd.zq4 (Kd.R_elderB (Kd.ru HO_5.out) gb359 (Nat.le_of_eq hg.symm)) hb);have BK359:=zq.mk (hbox);have GW359:=zq.mk ((by rw [hg];exact(zw bw):w.heap.size≤gb359));have GE359:=zq.mk ((by rw [hg];exact(zw bw):w.heap.size≤gb359));replace HB:=zq.mk (zn bw hb);clear hb hbox hg;obtain ⟨hcz15_0,hcz15_1,hcz15_2,hfz15_0,hfz15_1,hfz15_2⟩:=qd BK359.out)|((with_reducible refine zj7 (b:=.append) (xs:=#[.tmp 33,.tmp 35]) rfl ?_);at_builtin;refine Kd.zjj k38 (w0:=w) w.heap.size rfl (.tmp 33) (.tmp 35) 23 38 (.agg #[(.int .i64 0),(.int .i64 0),(.string ⟨#[]⟩)]) 32 rfl Tryd.underlying23 info38 rfl (by decide) (by omega) (.slice Ao11 x5_1.length co11) x5_1 (⟨t354,t355,t356⟩:S38) [.int .i64 t354,.int .i64 t355,.string t356] (fun k_=>k_≠gb359) (fun _=>False) rfl (by first|(go_simp;done)|(go_simp;rfl)) ?aP (fun _ hk=>hk.elim) ?aF ?aO ?aB ?aS ?aL ?_;(case aP=>exact zkn _ _ _ (⟨t354,t355,t356⟩:S38));(case aB=>exact bw);(case aF=>exact(fun k_ hk=>Kd.zkg (g:=gb359) (o:=.cells #[.int .i64 t354,.int .i64 t355,.string t356] 38 (0,0)) (by(with_reducible repeat(first|refine zz ?_ _|refine zk ?_|refine zj ?_ _));refine qw (cs:=#[.int .i64 t354,.int .i64 t355,.string (⟨#[]⟩:ByteArray)]) ?_ 2 _ rfl;(with_reducible repeat(first|refine zz ?_ _|refine zk ?_|refine zj ?_ _));refine qw (cs:=#[.int .i64 t354,.int .i64 0,.string (⟨#[]⟩:ByteArray)]) ?_ 1 _ rfl;(with_reducible repeat(first|refine zz ?_ _|refine zk ?_|refine zj ?_ _));refine qw (cs:=#[.int .i64 0,.int .i64 0,.string (⟨#[]⟩:ByteArray)]) ?_ 0 _ rfl;(with_reducible repeat(first|refine zz ?_ _|refine zk ?_|refine zj ?_ _));exact BK359.out) k_ hk));(case aO=>exact(Kd.ru (Kd.zqy (Kd.zxt (p:=⟨gb359,2,none⟩) (Kd.zxt (p:=⟨gb359,1,none⟩) (Kd.zxt (p:=⟨gb359,0,none⟩) (Kd.zqy HO_5.out (fun k_ hk=>(⟨hk,hk.2⟩:_∧k_≠gb359))) (fun _ hk=>hk.2) (.int .i64 t354)) (fun _ hk=>hk.2) (.int .i64 t355)) (fun _ hk=>hk.2) (.string t356)) (fun _ hk=>hk.1.2))));(case aS=>exact(zw bw));(case aL=>have:=LMc10.out;omega);intro v361 w16 ho hb hg hat;rw [← Ny360.out] at ho;replace BK359:=zq.mk (zxk (g:=gb359) (o:=.cells #[.int .i64 t354,.int .i64 t355,.string t356] 38 (0,0)) (by(with_reducible repeat(first|refine zz ?_ _|refine zk ?_|refine zj ?_ _));refine qw (cs:=#[.int .i64 t354,.int .i64 t355,.string (⟨#[]⟩:ByteArray)]) ?_ 2 _ rfl;(with_reducible repeat(first|refine zz ?_ _|refine zk ?_|refine zj ?_ _));refine qw (cs:=#[.int .i64 t354,.int .i64 0,.string (⟨#[]⟩:ByteArray)]) ?_ 1 _ rfl;(with_reducible repeat(first|refine zz ?_ _|refine zk ?_|refine zj ?_ _));refine qw (cs:=#[.int .i64 0,.int .i64 0,.string (⟨#[]⟩:ByteArray)]) ?_ 0 _ rfl;(with_reducible repeat(first|refine zz ?_ _|refine zk ?_|refine zj ?_ _));exact BK359.out) hg (Kd.R_away HO_5.out (fun _ hk=>hk.2)));replace HB:=zq.mk (hb);have HO362:=zq.mk (ho);clear HO_5 ho hb hg hat))
        go_roundg k1
        case measure=>have:=HK1.out;omega
        case rel=>exact⟨(y360),(wrap64 (x6_1+t357)),vr,H',⟨by have:=HK1.out;omega⟩,⟨by(with_reducible repeat(first|apply Kd.zq5|apply Kd.zq7|apply Kd.zjf));exact Kd.zqy HO362.out (fun _ hk=>trivial)⟩,⟨bw⟩⟩
       rw [if_neg c10] at H
       exact absurd H (by simp)
      rw [if_neg c9] at H
      have c9b0:(t358 == 0)=false:=beq_eq_false_iff_ne.mpr c9
      have c9b1:(t358 != 0)=true:=bne_iff_ne.mpr c9
      simp only [Option.some.injEq,Prod.mk.injEq] at H
      obtain ⟨rfl,rfl,rfl⟩:=H
      obtain ⟨Ao17,co17,eo17⟩:=Kd.zje HO_5.out
      subst eo17
      obtain ⟨i018,hi018,_,hsz18,_⟩:=info_parts zxr
      obtain ⟨A18,hcut18,hA18,hC18⟩:=zvb (P:=Tryd.prog) (Value.int .u8) 0 30 5 .i64 Tryd.underlying30 hi018 hsz18 A0 c0 l0 x6_1 (dt) (dt) HC0.out
      have HR353:=zq.mk (Kd.zk3 (h1:=fun _=>rfl) (hA18 _ (Kd.zxw HR0.out)))
      have HC353:=zq.mk hC18
      clear hA18 hC18 hi018 hsz18
      go_wp2_with (first|((with_reducible refine qh (f:=66) rfl ?_);refine zqn (some 25) rfl rfl Tryd.func66 (by kernel_rfl) rfl #[.slice A18 (l0.drop (x6_1:Int).toNat).length (c0 - x6_1.toNat)] rfl (by(try simp only [List.map_toArray,List.map_cons,List.map_nil]);first|done|(rw [show(l0.drop (x6_1:Int).toNat).length=(l0.length - x6_1.toNat) from List.length_drop] <;> rfl)|rfl|(simp only [List.length_drop,List.length_take];rfl)) ?_;(with_reducible refine(zo.calls k1 _ _ (l0.drop (x6_1:Int).toNat) t354 t355 t356 t357 t358 _ ?side1 ?side2 A8.out).mono ?_);(case side1=>exact Kd.cu (Kd.qu HR353.out HB.out));(case side2=>exact HC353.out);rintro e w19 ⟨rfl,hb⟩;refine⟨_,rfl,?_⟩;replace HO_5:=zq.mk (Kd.zq4 (Kd.ru HO_5.out) hb);replace HB:=zq.mk (zn bw hb);(try clear hb);(try clear hb2);(try clear hk);(try clear hi))|((with_reducible refine qr (N:=7) rfl ?_);refine qm ?hg (N:=7) ?hd (cs:=#[.int .i64 0,.int .i64 0,.string (⟨#[]⟩:ByteArray)]) (t:=38) ?hr ?_;(case hd=>rfl);(case hg=>rfl);(case hr=>first|(go_simp;done)|(go_simp;rfl));intro gb359 hg w20 hbox hb;replace HO_5:=zq.mk (Kd.zq4 (Kd.R_elderB (Kd.ru HO_5.out) gb359 (Nat.le_of_eq hg.symm)) hb);have BK359:=zq.mk (hbox);have GW359:=zq.mk ((by rw [hg];exact(zw bw):w.heap.size≤gb359));have GE359:=zq.mk ((by rw [hg];exact(zw bw):w.heap.size≤gb359));replace HB:=zq.mk (zn bw hb);clear hb hbox hg;obtain ⟨hcz21_0,hcz21_1,hcz21_2,hfz21_0,hfz21_1,hfz21_2⟩:=qd BK359.out))
      go_ret3
      exact⟨_,by first|rfl|(simp [zg,zy] <;> rfl)|(simp [*,zg,zy] <;> rfl),by first|exact Kd.zxf _ _ _ _ _|exact Kd.zx4 _ _ _ _ _|exact Kd.zxl _ _ _ _ _|exact Kd.zx3 _ _ _ _ _|exact Kd.zx2 _ _ _ _ _,bw⟩
     rw [if_neg c7] at H
     exact absurd H (by simp)
    rw [if_neg c6] at H
    exact absurd H (by simp)
   rw [if_neg c3] at H
   have c3b0:=decide_eq_false c3
   clear c3
   simp only [Option.some.injEq,Prod.mk.injEq] at H
   obtain ⟨rfl,rfl,rfl⟩:=H
   go_wp2
   go_ret3
   exact⟨_,by first|rfl|(simp [zg,zy] <;> rfl)|(simp [*,zg,zy] <;> rfl),by(with_reducible repeat(first|apply Kd.zq5|apply Kd.zq7|apply Kd.zjf));exact HO_5.out,bw⟩

/-! ### zqm: function 37 -/
def zqm.f (l0:List Int) (l1:List Int):Option (Bool):=some ((strOfNums l0).toList == (strOfNums l1).toList)
set_option maxHeartbeats 8000000 in
set_option maxRecDepth 100000 in
theorem zqm.calls (A0:Option Addr) (c0:Nat) (l0:List Int) (A1:Option Addr) (c1:Nat) (l1:List Int) (r:Bool) (w:World) (hr0:Kd.C (Kd.int .u8) w A0 l0.length l0) (hc0:l0.length≤c0) (hr1:Kd.C (Kd.int .u8) w A1 l1.length l1) (hc1:l1.length≤c1) (h:zqm.f l0 l1=some r) :
  Calls Tryd.prog 37 #[.slice A0 l0.length c0,.slice A1 l1.length c1] w fun e w'=>e = .returned (.bool r)∧za w w':=by
 have HR0:=zq.mk hr0
 have HC0:=zq.mk hc0
 clear hr0 hc0
 have HR1:=zq.mk hr1
 have HC1:=zq.mk hc1
 clear hr1 hc1
 have H:(some ((strOfNums l0).toList == (strOfNums l1).toList))=some r:=h
 clear h
 obtain rfl:=Option.some.inj H
 have hcv3:=Kd.zk2 (P:=Tryd.prog) (A:=A0) (c:=c0) Tryd.underlying30 Tryd.underlying5 Tryd.underlying9 HR0.out
 (try rw [List.length_drop,List.length_take,Nat.min_eq_left (by first|omega|(simp only [eq_iff_iff,iff_true] at *;omega))] at hcv3)
 have hcv4:=Kd.zk2 (P:=Tryd.prog) (A:=A1) (c:=c1) Tryd.underlying30 Tryd.underlying5 Tryd.underlying9 HR1.out
 (try rw [List.length_drop,List.length_take,Nat.min_eq_left (by first|omega|(simp only [eq_iff_iff,iff_true] at *;omega))] at hcv4)
 go_enter Tryd.func37,Tryd.ntmps37
 go_wp2
 go_ret
 exact⟨by first|rfl|(simp;done)|(simp [*];done),by repeat(first|exact za.refl _|apply za.step)⟩

/-! ### qy: function 14 -/
mutual
def qy.j0:Nat→List (S61)→Int→Bool→List Int→List Int→Option ((List (S38)) × Int)
 | 0,_,_,_,_,_=>none
 | k+1,x0,x1,x22,x364000,x364001=>if x22=true then(some (([]:List (S38)),2)) else ((qt.f k x364001).bind fun bt365=>(if bt365.2.2=0 then(if 0≤x1 then(if x1<(x0.length:Int) then((qj.f k ((zt x0 x1).f0) ((zt x0 x1).f1) ((zt x0 x1).f2) ((zt x0 x1).f3) bt365.1).bind fun t371=>(qy.j1 k x0 x1 bt365.1 (t371 != 0) x364000 x364001)) else (none)) else (none)) else (qy.j1 k x0 x1 bt365.1 true x364000 x364001)))
def qy.j1:Nat→List (S61)→Int→List (S38)→Bool→List Int→List Int→Option ((List (S38)) × Int)
 | 0,_,_,_,_,_,_=>none
 | k+1,x0,x1,x8,x40,x364000,x364001=>if x40=true then(some (([]:List (S38)),4)) else ((zp.f k x0 x1 x8).bind fun t372=>(if 0<(t372.length:Int) then((zqm.f ((zjq t372 0).f0) x364000).bind fun t377=>(if t377=true then((zqm.f ((zjq t372 0).f1) x364001).bind fun t378=>(if t378=true then(some (x8,0)) else (some (([]:List (S38)),4)))) else (some (([]:List (S38)),4)))) else (none)))
end
def qy.f (k:Nat) (l0:List (S61)) (a1:Int) (l2_0:List Int) (l2_1:List Int):Option ((List (S38)) × Int):=(zi.f k l0).bind fun t364=>(if t364=true then(if a1<0 then(qy.j0 k l0 a1 true l2_0 l2_1) else (qy.j0 k l0 a1 (decide (a1 ≥ (l0.length:Int))) l2_0 l2_1)) else (some (([]:List (S38)),4)))
theorem qy.mono_l:∀ k,(∀ y0 y1 y2 y3 y4,LeO (qy.j0 k y0 y1 y2 y3 y4) (qy.j0 (k+1) y0 y1 y2 y3 y4))∧(∀ y0 y1 y2 y3 y4 y5,LeO (qy.j1 k y0 y1 y2 y3 y4 y5) (qy.j1 (k+1) y0 y1 y2 y3 y4 y5))
 | 0=>⟨fun _ _ _ _ _ r h=>by simp [qy.j0] at h,fun _ _ _ _ _ _ r h=>by simp [qy.j1] at h⟩
 | k+1=>by
  obtain ⟨ih0,ih1⟩:=qy.mono_l k
  refine⟨?_,?_⟩
  ·intro y0 y1 y2 y3 y4
   unfold qy.j0
   repeat' first
   | (with_reducible first|exact ih0 _ _ _ _ _|exact ih1 _ _ _ _ _ _|exact zi.mono _ _|exact qj.mono _ _ _ _ _ _|exact qt.mono _ _|exact zp.mono _ _ _ _|exact LeO.refl _|exact LeO.none _|refine LeO.ite ?_ ?_|refine LeO.bind ?_ (fun _=>?_))
   | exact ih0 _ _ _ _ _
   | exact ih1 _ _ _ _ _ _
   | exact zi.mono _ _
   | exact qj.mono _ _ _ _ _ _
   | exact qt.mono _ _
   | exact zp.mono _ _ _ _
   | exact LeO.none _
   | refine LeO.ite ?_ ?_
   | refine LeO.bind ?_ (fun _=>?_)
  intro y0 y1 y2 y3 y4 y5
  unfold qy.j1
  repeat' first
  | (with_reducible first|exact ih0 _ _ _ _ _|exact ih1 _ _ _ _ _ _|exact zi.mono _ _|exact qj.mono _ _ _ _ _ _|exact qt.mono _ _|exact zp.mono _ _ _ _|exact LeO.refl _|exact LeO.none _|refine LeO.ite ?_ ?_|refine LeO.bind ?_ (fun _=>?_))
  | exact ih0 _ _ _ _ _
  | exact ih1 _ _ _ _ _ _
  | exact zi.mono _ _
  | exact qj.mono _ _ _ _ _ _
  | exact qt.mono _ _
  | exact zp.mono _ _ _ _
  | exact LeO.none _
  | refine LeO.ite ?_ ?_
  | refine LeO.bind ?_ (fun _=>?_)
theorem qy.mono:∀ a0 a1 a2 a3 k,LeO (qy.f k a0 a1 a2 a3) (qy.f (k+1) a0 a1 a2 a3):=by
 intro a0 a1 a2 a3 k
 obtain ⟨ih0,ih1⟩:=qy.mono_l k
 unfold qy.f
 repeat' first
   | (with_reducible first|exact ih0 _ _ _ _ _|exact ih1 _ _ _ _ _ _|exact zi.mono _ _|exact qj.mono _ _ _ _ _ _|exact qt.mono _ _|exact zp.mono _ _ _ _|exact LeO.refl _|exact LeO.none _|refine LeO.ite ?_ ?_|refine LeO.bind ?_ (fun _=>?_))
   | exact ih0 _ _ _ _ _
   | exact ih1 _ _ _ _ _ _
   | exact zi.mono _ _
   | exact qj.mono _ _ _ _ _ _
   | exact qt.mono _ _
   | exact zp.mono _ _ _ _
   | exact LeO.none _
   | refine LeO.ite ?_ ?_
   | refine LeO.bind ?_ (fun _=>?_)
set_option maxHeartbeats 8000000 in
set_option maxRecDepth 100000 in
theorem qy.calls (k:Nat) (A0:Option Addr) (c0:Nat) (l0:List (S61)) (a1:Int) (A2_0:Option Addr) (c2_0:Nat) (l2_0:List Int) (A2_1:Option Addr) (c2_1:Nat) (l2_1:List Int) (r1:List (S38)) (r2:Int) (w:World) (hr0:Kd.C k61 w A0 l0.length l0) (hc0:l0.length≤c0) (hr2_0:Kd.C (Kd.int .u8) w A2_0 l2_0.length l2_0) (hc2_0:l2_0.length≤c2_0) (hr2_1:Kd.C (Kd.int .u8) w A2_1 l2_1.length l2_1) (hc2_1:l2_1.length≤c2_1) (h:qy.f k l0 a1 l2_0 l2_1=some (r1,r2)) :
  Calls Tryd.prog 14 #[.slice A0 l0.length c0,.int .i64 a1,.agg #[.slice A2_0 l2_0.length c2_0,.slice A2_1 l2_1.length c2_1]] w fun e w' => ∃ v0_:Value,e = .returned (.tuple #[v0_,.int .i64 r2])∧Kd.R k38 38 w' w.heap.size (fun _=>True) v0_ r1∧Below w.heap.size w w':=by
 have hu32:=Tryd.underlying32
 have hu61:=Tryd.underlying61
 have HR0:=zq.mk hr0
 have HC0:=zq.mk hc0
 clear hr0 hc0
 have HR2_0:=zq.mk hr2_0
 have HC2_0:=zq.mk hc2_0
 clear hr2_0 hc2_0
 have HR2_1:=zq.mk hr2_1
 have HC2_1:=zq.mk hc2_1
 clear hr2_1 hc2_1
 have HB:=zq.mk (Below.refl w.heap.size w)
 have H:((zi.f k l0).bind fun t364=>(if t364=true then(if a1<0 then(qy.j0 k l0 a1 true l2_0 l2_1) else (qy.j0 k l0 a1 (decide (a1 ≥ (l0.length:Int))) l2_0 l2_1)) else (some (([]:List (S38)),4))))=some (r1,r2):=h
 clear h
 replace H:=Option.bind_eq_some_iff.mp H
 obtain ⟨t364,A40,H⟩:=H
 replace H:(if t364=true then(if a1<0 then(qy.j0 k l0 a1 true l2_0 l2_1) else (qy.j0 k l0 a1 (decide (a1 ≥ (l0.length:Int))) l2_0 l2_1)) else (some (([]:List (S38)),4)))=some (r1,r2):=H
 have A4:=zq.mk A40
 clear A40
 by_cases c5:t364=true
 ·subst c5
  rw [if_pos rfl] at H
  have HC6:=zq.mk H
  clear H
  go_enter Tryd.func14,Tryd.ntmps14
  go_upto_region 3 with (first|((with_reducible refine qr (N:=5) rfl ?_);(try(refine ql (by rfl) ?_;dsimp only));refine qm ?hg (N:=5) ?hd (cs:=#[.slice A2_0 l2_0.length c2_0,.slice A2_1 l2_1.length c2_1]) (t:=32) ?hr ?_;(case hd=>rfl);(case hg=>rfl);(case hr=>first|(go_simp;done)|(go_simp;rfl));intro gb363 hg w7 hbox hb;have BK363:=zq.mk (hbox);have GW363:=zq.mk ((by rw [hg];exact(zw bw):w.heap.size≤gb363));have GE363:=zq.mk ((by rw [hg];exact(zw bw):w.heap.size≤gb363));replace HB:=zq.mk (zn bw hb);clear hb hbox hg)|((with_reducible refine qh (f:=31) rfl ?_);refine zqn (some 13) rfl rfl Tryd.func31 (by kernel_rfl) rfl #[.slice A0 l0.length c0] rfl gs ?_;(with_reducible refine(zi.calls k _ _ l0 true _ ?side1 ?side2 A4.out).mono ?_);(case side1=>exact Kd.cu (Kd.qu HR0.out HB.out));(case side2=>exact HC0.out);rintro e w8 ⟨rfl,hb⟩;refine⟨_,rfl,?_⟩;replace BK363:=zq.mk (ze (g:=gb363) (o:=.cells #[.slice A2_0 l2_0.length c2_0,.slice A2_1 l2_1.length c2_1] 32 (0,0)) (up BK363.out) hb);replace HB:=zq.mk (zn bw hb);(try clear hb);(try clear hb2);(try clear hk);(try clear hi)))
  (try simp only [Act.put,List.setIfInBounds_toArray,List.set_cons_zero,List.set_cons_succ])
  go_cut [22] (fun v22 wc => ∃ (kq:Nat) (x22_5:Bool),v22 = .bool x22_5∧zq (qy.j0 kq l0 a1 x22_5 l2_0 l2_1=some (r1,r2))∧zq (kq≤k)∧zq (wc.heap[gb363]? = some (.cells #[(.slice A2_0 l2_0.length c2_0),(.slice A2_1 l2_1.length c2_1)] 32 (0,0)))∧zq (Below w.heap.size w wc))
  case first=>
   have H:=HC6.out
   clear HC6
   by_cases c9:a1<0
   ·rw [if_pos c9] at H
    have c9b0:=decide_eq_true c9
    clear c9
    (first|rw [c9b0]|(simp only [zqp,zqq];rw [c9b0])|skip)
    have H':=zq.mk H
    clear H
    go_wp2
    go_meet
    case rel=>exact⟨_,(true),vr,H',⟨by first|omega|exact Nat.le_refl _⟩,⟨by(with_reducible repeat(first|refine zz ?_ _|refine zk ?_|refine zj ?_ _));exact BK363.out⟩,⟨bw⟩⟩
   rw [if_neg c9] at H
   have c9b0:=decide_eq_false c9
   clear c9
   (first|rw [c9b0]|(simp only [zqp,zqq];rw [c9b0])|skip)
   have H':=zq.mk H
   clear H
   go_wp2
   go_meet
   case rel=>exact⟨_,(decide (a1 ≥ (l0.length:Int))),vr,H',⟨by first|omega|exact Nat.le_refl _⟩,⟨by(with_reducible repeat(first|refine zz ?_ _|refine zk ?_|refine zj ?_ _));exact BK363.out⟩,⟨bw⟩⟩
  case rest=>
   clear HC6
   (try clear c5)
   (try clear BK363)
   obtain ⟨kq,x22_5,rfl,HA,HJ5,BK363,HB⟩:=hcut
   cases kq with
   | zero=>exact absurd HA.out (by simp [qy.j0])
   | succ kj5=>
    have H:=HA.out
    clear HA
    simp only [qy.j0] at H
    by_cases c10:x22_5=true
    ·subst c10
     rw [if_pos rfl] at H
     simp only [Option.some.injEq,Prod.mk.injEq] at H
     obtain ⟨rfl,rfl⟩:=H
     go_wp2
     go_ret2
     exact⟨_,by first|rfl|(simp [zg,zy] <;> rfl)|(simp [*,zg,zy] <;> rfl),by first|exact Kd.zxf _ _ _ _ _|exact Kd.zx4 _ _ _ _ _|exact Kd.zxl _ _ _ _ _|exact Kd.zx3 _ _ _ _ _|exact Kd.zx2 _ _ _ _ _,bw⟩
    replace c10:=Bool.eq_false_iff.mpr c10
    subst c10
    rw [if_neg (show ¬ (false=true) by decide)] at H
    replace H:=Option.bind_eq_some_iff.mp H
    obtain ⟨⟨t365,t366,t367⟩,A110,H⟩:=H
    replace H:(if t367=0 then(if 0≤a1 then(if a1<(l0.length:Int) then((qj.f kj5 ((zt l0 a1).f0) ((zt l0 a1).f1) ((zt l0 a1).f2) ((zt l0 a1).f3) t365).bind fun t371=>(qy.j1 kj5 l0 a1 t365 (t371 != 0) l2_0 l2_1)) else (none)) else (none)) else (qy.j1 kj5 l0 a1 t365 true l2_0 l2_1))=some (r1,r2):=H
    have A11:=zq.mk A110
    clear A110
    have HC12:=zq.mk H
    clear H
    obtain ⟨hcz13_0,hcz13_1,hfz13_0,hfz13_1⟩:=zji BK363.out
    go_upto_region 6 with (first|((with_reducible refine qh (f:=36) rfl ?_);refine zqn (some 26) rfl rfl Tryd.func36 (by kernel_rfl) rfl #[.slice A2_1 l2_1.length c2_1] rfl gs ?_;(with_reducible refine(qt.calls kj5 _ _ l2_1 t365 t366 t367 _ ?side1 ?side2 A11.out).mono ?_);(case side1=>exact Kd.cu (Kd.qu HR2_1.out HB.out));(case side2=>exact HC2_1.out);rintro e w14 ⟨v368,rfl,ho0,hb⟩;refine⟨_,rfl,?_⟩;have HO369:=zq.mk (Kd.zjs ho0 (zw bw));replace BK363:=zq.mk (ze (g:=gb363) (o:=.cells #[.slice A2_0 l2_0.length c2_0,.slice A2_1 l2_1.length c2_1] 32 (0,0)) (up BK363.out) hb);replace HB:=zq.mk (zn bw hb);(try clear hb);(try clear hb2);(try clear hk);(try clear hi);(try clear ho0)))
    (try simp only [Act.put,List.setIfInBounds_toArray,List.set_cons_zero,List.set_cons_succ])
    go_cut [40] (fun v40 wc => ∃ (kq:Nat) (x40_11:Bool),v40 = .bool x40_11∧zq (qy.j1 kq l0 a1 t365 x40_11 l2_0 l2_1=some (r1,r2))∧zq (kq≤kj5)∧zq (Kd.R k38 38 wc w.heap.size (fun _=>True) v368 t365)∧zq (wc.heap[gb363]? = some (.cells #[(.slice A2_0 l2_0.length c2_0),(.slice A2_1 l2_1.length c2_1)] 32 (0,0)))∧zq (Below w.heap.size w wc))
    case first=>
     have H:=HC12.out
     clear HC12
     by_cases c15:t367=0
     ·rw [if_pos c15] at H
      have c15b0:(t367 == 0)=true:=beq_iff_eq.mpr c15
      have c15b1:(t367 != 0)=false:=bne_eq_false_iff_eq.mpr c15
      clear c15
      (first|rw [c15b0]|(simp only [zqp,zqq];rw [c15b0])|skip)
      by_cases c16:0≤a1
      ·rw [if_pos c16] at H
       have c16b0:=decide_eq_true c16
       clear c16
       by_cases c17:a1<(l0.length:Int)
       ·rw [if_pos c17] at H
        have c17b0:=decide_eq_true c17
        clear c17
        replace H:=Option.bind_eq_some_iff.mp H
        obtain ⟨t371,A180,H⟩:=H
        replace H:(qy.j1 kj5 l0 a1 t365 (t371 != 0) l2_0 l2_1)=some (r1,r2):=H
        have A18:=zq.mk A180
        clear A180
        have H':=zq.mk H
        clear H
        have p370:0≤(a1:Int):=dt
        have q370:a1<(l0.length:Int):=dt
        obtain ⟨ad370,A370_1,c370_1,A370_2,c370_2,A370_3,c370_3,e370,hx370_0,hx370_1,hx370_2,hx370_3,hl370_1,hi370_1,hl370_2,hi370_2,hl370_3,hi370_3⟩:=zkj HR0.out a1 p370 q370
        cases e370
        replace hx370_0:=(HB.out.cell (World.block_lt_of_cell? w _ hx370_0)).trans hx370_0
        replace hx370_1:=(HB.out.cell (World.block_lt_of_cell? w _ hx370_1)).trans hx370_1
        replace hx370_2:=(HB.out.cell (World.block_lt_of_cell? w _ hx370_2)).trans hx370_2
        replace hx370_3:=(HB.out.cell (World.block_lt_of_cell? w _ hx370_3)).trans hx370_3
        have HR370_1:=zq.mk hi370_1
        have HC370_1:=zq.mk hl370_1
        clear hi370_1 hl370_1
        have HR370_2:=zq.mk hi370_2
        have HC370_2:=zq.mk hl370_2
        clear hi370_2 hl370_2
        have HR370_3:=zq.mk hi370_3
        have HC370_3:=zq.mk hl370_3
        clear hi370_3 hl370_3
        replace p370:=eq_true p370
        replace q370:=eq_true q370
        obtain ⟨Ao19,co19,eo19⟩:=Kd.zje HO369.out
        subst eo19
        go_wp2_with (first|(go_at_call 32;(with_reducible refine(qj.calls kj5 ((zt l0 a1).f0) _ _ ((zt l0 a1).f1) _ _ ((zt l0 a1).f2) _ _ ((zt l0 a1).f3) _ _ t365 t371 _ ?side1 ?side2 ?side3 ?side4 ?side5 ?side6 ?side7 ?side8 A18.out).mono ?_);(case side1=>exact Kd.cu (Kd.qu HR370_1.out HB.out));(case side2=>exact HC370_1.out);(case side3=>exact Kd.cu (Kd.qu HR370_2.out HB.out));(case side4=>exact HC370_2.out);(case side5=>exact Kd.cu (Kd.qu HR370_3.out HB.out));(case side6=>exact HC370_3.out);(case side7=>exact Kd.cu (Kd.zqk HO369.out).2.2);(case side8=>exact(Kd.zqk HO369.out).2.1);rintro e w20 ⟨rfl,hb⟩;replace HO369:=zq.mk (Kd.zq4 (Kd.ru HO369.out) hb);replace BK363:=zq.mk (ze (g:=gb363) (o:=.cells #[.slice A2_0 l2_0.length c2_0,.slice A2_1 l2_1.length c2_1] 32 (0,0)) (up BK363.out) hb);replace HB:=zq.mk (zn bw hb);(try clear hb);(try clear hb2);(try clear hk);(try clear hi)))
        go_meet
        case rel=>exact⟨_,((t371 != 0)),vr,H',⟨by have:=HJ5.out;first|omega|exact Nat.le_refl _⟩,⟨by(with_reducible repeat(first|apply Kd.zq5|apply Kd.zq7|apply Kd.zjf));exact HO369.out⟩,⟨by(with_reducible repeat(first|refine zz ?_ _|refine zk ?_|refine zj ?_ _));exact BK363.out⟩,⟨bw⟩⟩
       rw [if_neg c17] at H
       exact absurd H (by simp)
      rw [if_neg c16] at H
      exact absurd H (by simp)
     rw [if_neg c15] at H
     have c15b0:(t367 == 0)=false:=beq_eq_false_iff_ne.mpr c15
     have c15b1:(t367 != 0)=true:=bne_iff_ne.mpr c15
     (first|rw [c15b0]|(simp only [zqp,zqq];rw [c15b0])|skip)
     have H':=zq.mk H
     clear H
     go_wp2
     go_meet
     case rel=>exact⟨_,(true),vr,H',⟨by have:=HJ5.out;first|omega|exact Nat.le_refl _⟩,⟨by(with_reducible repeat(first|apply Kd.zq5|apply Kd.zq7|apply Kd.zjf));exact HO369.out⟩,⟨by(with_reducible repeat(first|refine zz ?_ _|refine zk ?_|refine zj ?_ _));exact BK363.out⟩,⟨bw⟩⟩
    case rest=>
     clear HC12
     (try clear c5);(try clear c10);(try clear hcz13_0);(try clear hcz13_1);(try clear hfz13_0);(try clear hfz13_1)
     obtain ⟨kq,x40_11,rfl,HA,HJ11,HO_8,BK363,HB⟩:=hcut
     cases kq with
     | zero=>exact absurd HA.out (by simp [qy.j1])
     | succ kj11=>
      have H:=HA.out
      clear HA
      simp only [qy.j1] at H
      by_cases c21:x40_11=true
      ·subst c21
       rw [if_pos rfl] at H
       simp only [Option.some.injEq,Prod.mk.injEq] at H
       obtain ⟨rfl,rfl⟩:=H
       go_wp2
       go_ret2
       exact⟨_,by first|rfl|(simp [zg,zy] <;> rfl)|(simp [*,zg,zy] <;> rfl),by first|exact Kd.zxf _ _ _ _ _|exact Kd.zx4 _ _ _ _ _|exact Kd.zxl _ _ _ _ _|exact Kd.zx3 _ _ _ _ _|exact Kd.zx2 _ _ _ _ _,bw⟩
      replace c21:=Bool.eq_false_iff.mpr c21
      subst c21
      rw [if_neg (show ¬ (false=true) by decide)] at H
      replace H:=Option.bind_eq_some_iff.mp H
      obtain ⟨t372,A220,H⟩:=H
      replace H:(if 0<(t372.length:Int) then((zqm.f ((zjq t372 0).f0) l2_0).bind fun t377=>(if t377=true then((zqm.f ((zjq t372 0).f1) l2_1).bind fun t378=>(if t378=true then(some (t365,0)) else (some (([]:List (S38)),4)))) else (some (([]:List (S38)),4)))) else (none))=some (r1,r2):=H
      have A22:=zq.mk A220
      clear A220
      by_cases c23:0<(t372.length:Int)
      ·rw [if_pos c23] at H
       have c23b0:=decide_eq_true c23
       have c23b1:decide (0<t372.length)=true:=decide_eq_true (by omega)
       clear c23
       replace H:=Option.bind_eq_some_iff.mp H
       obtain ⟨t377,A240,H⟩:=H
       replace H:(if t377=true then((zqm.f ((zjq t372 0).f1) l2_1).bind fun t378=>(if t378=true then(some (t365,0)) else (some (([]:List (S38)),4)))) else (some (([]:List (S38)),4)))=some (r1,r2):=H
       have A24:=zq.mk A240
       clear A240
       by_cases c25:t377=true
       ·subst c25
        rw [if_pos rfl] at H
        replace H:=Option.bind_eq_some_iff.mp H
        obtain ⟨t378,A260,H⟩:=H
        replace H:(if t378=true then(some (t365,0)) else (some (([]:List (S38)),4)))=some (r1,r2):=H
        have A26:=zq.mk A260
        clear A260
        by_cases c27:t378=true
        ·subst c27
         rw [if_pos rfl] at H
         simp only [Option.some.injEq,Prod.mk.injEq] at H
         obtain ⟨rfl,rfl⟩:=H
         obtain ⟨Ao28,co28,eo28⟩:=Kd.zje HO_8.out
         subst eo28
         go_wp2_with (first|((with_reducible refine qh (f:=33) rfl ?_);refine zqn (some 44) rfl rfl Tryd.func33 (by kernel_rfl) rfl #[.slice A0 l0.length c0,.int .i64 a1,.slice Ao28 t365.length co28] rfl gs ?_;(with_reducible refine(zp.calls kj11 _ _ l0 a1 _ _ t365 t372 _ ?side1 ?side2 ?side3 ?side4 A22.out).mono ?_);(case side1=>exact Kd.cu (Kd.qu HR0.out HB.out));(case side2=>exact HC0.out);(case side3=>exact Kd.cu (Kd.zqk HO_8.out).2.2);(case side4=>exact(Kd.zqk HO_8.out).2.1);rintro e w29 ⟨v373,rfl,ho0,hb⟩;refine⟨_,rfl,?_⟩;replace HO_8:=zq.mk (Kd.zq4 (Kd.ru HO_8.out) hb);have HO374:=zq.mk (Kd.S_lower (Kd.S_newB ho0 (g:=gb363) (o:=.cells #[.slice A2_0 l2_0.length c2_0,.slice A2_1 l2_1.length c2_1] 32 (0,0)) (up BK363.out)) (zw bw));replace BK363:=zq.mk (ze (g:=gb363) (o:=.cells #[.slice A2_0 l2_0.length c2_0,.slice A2_1 l2_1.length c2_1] 32 (0,0)) (up BK363.out) hb);replace HB:=zq.mk (zn bw hb);(try clear hb);(try clear hb2);(try clear hk);(try clear hi);(try clear ho0);obtain ⟨Ao30,co30,eo30⟩:=Kd.S_slice HO374.out;subst eo30;have p375:0≤(0:Int):=(by omega);have q375:0<(t372.length:Int):=dt;obtain ⟨ad375,A375_0,c375_0,A375_1,c375_1,e375,hx375_0,hx375_1,hl375_0,hi375_0,hl375_1,hi375_1⟩:=at_T32 (Kd.zkz HO374.out).2.2 0 p375 q375;cases e375;obtain ⟨ce375,hce375,hMe375,hcc375⟩:=Kd.S_get HO374.out z32 0 p375 (by first|exact q375|exact dt|(have e_:=(Kd.zkz HO374.out).1;omega));obtain ⟨ve375_0,ve375_1,rfl,ge375_0,ge375_1⟩:=zv7 hMe375;have hv375_0:=hcc375 0 _ rfl;rw [Nat.add_zero] at hv375_0;replace hv375_0:=Option.some.inj (hv375_0.symm.trans hx375_0);rw [hv375_0] at ge375_0;have HL375_0:=zq.mk (show Kd.R (Kd.int .u8) 5 _ _ _ _ ((zjq t372 0).f0) from ge375_0);clear hv375_0 ge375_0;have hv375_1:=hcc375 1 _ rfl;rw [zj3 _ _ 1 (by omega)] at hv375_1;replace hv375_1:=Option.some.inj (hv375_1.symm.trans hx375_1);rw [hv375_1] at ge375_1;have HL375_1:=zq.mk (show Kd.R (Kd.int .u8) 5 _ _ _ _ ((zjq t372 0).f1) from ge375_1);clear hv375_1 ge375_1 hcc375 hce375;have qi375:(0<t372.length)=True:=eq_true (by omega);(try rw [show((0:Int)).toNat=0 from rfl] at hx375_0);(try rw [show 0 * 2=0 from rfl] at hx375_0);(try rw [Addr.add_zero'] at hx375_0);(try rw [show((0:Int)).toNat=0 from rfl] at hx375_1);(try rw [show 0 * 2=0 from rfl] at hx375_1);(try rw [Addr.add_zero'] at hx375_1);have HR375_0:=zq.mk hi375_0;have HC375_0:=zq.mk hl375_0;clear hi375_0 hl375_0;have HR375_1:=zq.mk hi375_1;have HC375_1:=zq.mk hl375_1;clear hi375_1 hl375_1;replace p375:=eq_true p375;replace q375:=eq_true q375)|((with_reducible refine qr (N:=11) rfl ?_);(try(refine ql (by rfl) ?_;dsimp only));refine qm ?hg (N:=11) ?hd (cs:=#[.slice none 0 0,.slice none 0 0]) (t:=32) ?hr ?_;(case hd=>rfl);(case hg=>rfl);(case hr=>first|(go_simp;done)|(go_simp;rfl));intro gb376 hg w31 hbox hb;replace HO_8:=zq.mk (Kd.zq4 (Kd.ru HO_8.out) hb);replace HO374:=zq.mk (Kd.zx7 (Kd.zvh (Kd.su HO374.out) gb376 (Nat.le_of_eq hg.symm)) hb);replace HL375_0:=zq.mk (Kd.zq4 (Kd.ru HL375_0.out) hb);replace HL375_1:=zq.mk (Kd.zq4 (Kd.ru HL375_1.out) hb);replace HR375_0:=zq.mk (Kd.qu (by repeat(first|(with_reducible exact HR375_0.out)|(with_reducible refine Kd.zke ?_ _)|(with_reducible refine Kd.zkd ?_ _)|(with_reducible refine Kd.zkw ?_)|exact HR375_0.out)) hb);replace HR375_1:=zq.mk (Kd.qu (by repeat(first|(with_reducible exact HR375_1.out)|(with_reducible refine Kd.zke ?_ _)|(with_reducible refine Kd.zkd ?_ _)|(with_reducible refine Kd.zkw ?_)|exact HR375_1.out)) hb);have BK376:=zq.mk (hbox);have GW376:=zq.mk ((by rw [hg];exact(zw bw):w.heap.size≤gb376));have GE376:=zq.mk ((by rw [hg];exact(zw bw):w.heap.size≤gb376));replace HB:=zq.mk (zn bw hb);have NB363_376:=zq.mk ((by rw [hg];exact Nat.ne_of_lt (zq3 (g:=gb363) (o:=.cells #[.slice A2_0 l2_0.length c2_0,.slice A2_1 l2_1.length c2_1] 32 (0,0)) (up BK363.out)):gb363≠gb376));have NB376_363:=zq.mk ((by rw [hg];exact Nat.ne_of_gt (zq3 (g:=gb363) (o:=.cells #[.slice A2_0 l2_0.length c2_0,.slice A2_1 l2_1.length c2_1] 32 (0,0)) (up BK363.out)):gb376≠gb363));replace BK363:=zq.mk (ze (g:=gb363) (o:=.cells #[.slice A2_0 l2_0.length c2_0,.slice A2_1 l2_1.length c2_1] 32 (0,0)) (up BK363.out) hb);clear hb hbox hg;have hnb32:=NB376_363.out;have hnc32:=NB363_376.out;obtain ⟨hcz33_0,hcz33_1,hfz33_0,hfz33_1⟩:=zji BK376.out;obtain ⟨hcz34_0,hcz34_1,hfz34_0,hfz34_1⟩:=zji BK363.out)|((with_reducible refine qh (f:=37) rfl ?_);refine zqn (some 51) rfl rfl Tryd.func37 (by kernel_rfl) rfl #[.slice A375_0 ((zjq t372 0).f0).length c375_0,.slice A2_0 l2_0.length c2_0] rfl gs ?_;(with_reducible refine(zqm.calls _ _ ((zjq t372 0).f0) _ _ l2_0 true _ ?side1 ?side2 ?side3 ?side4 A24.out).mono ?_);(case side1=>repeat(first|exact((Kd.zqk (Kd.ru (Kd.zqy (Kd.zxt (p:=⟨gb376,1,none⟩) (Kd.zxt (p:=⟨gb376,0,none⟩) (Kd.zj4 HL375_0.out BK376.out (by decide)) (fun _ hk=>hk.2) (.slice A375_0 ((zjq t372 0).f0).length c375_0)) (fun _ hk=>hk.2) (.slice A375_1 ((zjq t372 0).f1).length c375_1)) (fun _ h_=>h_.1)))).2.2)|(with_reducible refine Kd.zke ?_ _)|(with_reducible refine Kd.zkd ?_ _)|(with_reducible refine Kd.zkw ?_)));(case side2=>exact HC375_0.out);(case side3=>exact Kd.qu HR2_0.out bw);(case side4=>exact HC2_0.out);rintro e w' ⟨rfl,⟨nd,rfl⟩⟩;refine⟨_,rfl,?_⟩)|(go_at_call 37;(with_reducible refine(zqm.calls _ _ ((zjq t372 0).f1) _ _ l2_1 true _ ?side1 ?side2 ?side3 ?side4 A26.out).mono ?_);(case side1=>repeat(first|exact((Kd.zqk (Kd.ru (Kd.zqy (Kd.zxt (p:=⟨gb376,1,none⟩) (Kd.zxt (p:=⟨gb376,0,none⟩) (Kd.zj4 HL375_1.out BK376.out (by decide)) (fun _ hk=>hk.2) (.slice A375_0 ((zjq t372 0).f0).length c375_0)) (fun _ hk=>hk.2) (.slice A375_1 ((zjq t372 0).f1).length c375_1)) (fun _ h_=>h_.1)))).2.2)|(with_reducible refine Kd.zke ?_ _)|(with_reducible refine Kd.zkd ?_ _)|(with_reducible refine Kd.zkw ?_)));(case side2=>exact HC375_1.out);(case side3=>exact Kd.qu HR2_1.out bw);(case side4=>exact HC2_1.out);rintro e w' ⟨rfl,⟨nd,rfl⟩⟩))
         go_ret2
         exact⟨_,by first|rfl|(simp [zg,zy] <;> rfl)|(simp [*,zg,zy] <;> rfl),by(with_reducible repeat(first|apply Kd.zq5|apply Kd.zq7|apply Kd.zjf));exact Kd.zqy (Kd.zxt (p:=⟨gb376,1,none⟩) (Kd.zxt (p:=⟨gb376,0,none⟩) (Kd.zj4 HO_8.out BK376.out (by decide)) (fun _ hk=>hk.2) (.slice A375_0 ((zjq t372 0).f0).length c375_0)) (fun _ hk=>hk.2) (.slice A375_1 ((zjq t372 0).f1).length c375_1)) (fun _ hk=>trivial),bw⟩
        replace c27:=Bool.eq_false_iff.mpr c27
        subst c27
        rw [if_neg (show ¬ (false=true) by decide)] at H
        simp only [Option.some.injEq,Prod.mk.injEq] at H
        obtain ⟨rfl,rfl⟩:=H
        obtain ⟨Ao35,co35,eo35⟩:=Kd.zje HO_8.out
        subst eo35
        go_wp2_with (first|((with_reducible refine qh (f:=33) rfl ?_);refine zqn (some 44) rfl rfl Tryd.func33 (by kernel_rfl) rfl #[.slice A0 l0.length c0,.int .i64 a1,.slice Ao35 t365.length co35] rfl gs ?_;(with_reducible refine(zp.calls kj11 _ _ l0 a1 _ _ t365 t372 _ ?side1 ?side2 ?side3 ?side4 A22.out).mono ?_);(case side1=>exact Kd.cu (Kd.qu HR0.out HB.out));(case side2=>exact HC0.out);(case side3=>exact Kd.cu (Kd.zqk HO_8.out).2.2);(case side4=>exact(Kd.zqk HO_8.out).2.1);rintro e w36 ⟨v373,rfl,ho0,hb⟩;refine⟨_,rfl,?_⟩;replace HO_8:=zq.mk (Kd.zq4 (Kd.ru HO_8.out) hb);have HO374:=zq.mk (Kd.S_lower (Kd.S_newB ho0 (g:=gb363) (o:=.cells #[.slice A2_0 l2_0.length c2_0,.slice A2_1 l2_1.length c2_1] 32 (0,0)) (up BK363.out)) (zw bw));replace BK363:=zq.mk (ze (g:=gb363) (o:=.cells #[.slice A2_0 l2_0.length c2_0,.slice A2_1 l2_1.length c2_1] 32 (0,0)) (up BK363.out) hb);replace HB:=zq.mk (zn bw hb);(try clear hb);(try clear hb2);(try clear hk);(try clear hi);(try clear ho0);obtain ⟨Ao37,co37,eo37⟩:=Kd.S_slice HO374.out;subst eo37;have p375:0≤(0:Int):=(by omega);have q375:0<(t372.length:Int):=dt;obtain ⟨ad375,A375_0,c375_0,A375_1,c375_1,e375,hx375_0,hx375_1,hl375_0,hi375_0,hl375_1,hi375_1⟩:=at_T32 (Kd.zkz HO374.out).2.2 0 p375 q375;cases e375;obtain ⟨ce375,hce375,hMe375,hcc375⟩:=Kd.S_get HO374.out z32 0 p375 (by first|exact q375|exact dt|(have e_:=(Kd.zkz HO374.out).1;omega));obtain ⟨ve375_0,ve375_1,rfl,ge375_0,ge375_1⟩:=zv7 hMe375;have hv375_0:=hcc375 0 _ rfl;rw [Nat.add_zero] at hv375_0;replace hv375_0:=Option.some.inj (hv375_0.symm.trans hx375_0);rw [hv375_0] at ge375_0;have HL375_0:=zq.mk (show Kd.R (Kd.int .u8) 5 _ _ _ _ ((zjq t372 0).f0) from ge375_0);clear hv375_0 ge375_0;have hv375_1:=hcc375 1 _ rfl;rw [zj3 _ _ 1 (by omega)] at hv375_1;replace hv375_1:=Option.some.inj (hv375_1.symm.trans hx375_1);rw [hv375_1] at ge375_1;have HL375_1:=zq.mk (show Kd.R (Kd.int .u8) 5 _ _ _ _ ((zjq t372 0).f1) from ge375_1);clear hv375_1 ge375_1 hcc375 hce375;have qi375:(0<t372.length)=True:=eq_true (by omega);(try rw [show((0:Int)).toNat=0 from rfl] at hx375_0);(try rw [show 0 * 2=0 from rfl] at hx375_0);(try rw [Addr.add_zero'] at hx375_0);(try rw [show((0:Int)).toNat=0 from rfl] at hx375_1);(try rw [show 0 * 2=0 from rfl] at hx375_1);(try rw [Addr.add_zero'] at hx375_1);have HR375_0:=zq.mk hi375_0;have HC375_0:=zq.mk hl375_0;clear hi375_0 hl375_0;have HR375_1:=zq.mk hi375_1;have HC375_1:=zq.mk hl375_1;clear hi375_1 hl375_1;replace p375:=eq_true p375;replace q375:=eq_true q375)|((with_reducible refine qr (N:=11) rfl ?_);(try(refine ql (by rfl) ?_;dsimp only));refine qm ?hg (N:=11) ?hd (cs:=#[.slice none 0 0,.slice none 0 0]) (t:=32) ?hr ?_;(case hd=>rfl);(case hg=>rfl);(case hr=>first|(go_simp;done)|(go_simp;rfl));intro gb376 hg w38 hbox hb;replace HO_8:=zq.mk (Kd.zq4 (Kd.ru HO_8.out) hb);replace HO374:=zq.mk (Kd.zx7 (Kd.zvh (Kd.su HO374.out) gb376 (Nat.le_of_eq hg.symm)) hb);replace HL375_0:=zq.mk (Kd.zq4 (Kd.ru HL375_0.out) hb);replace HL375_1:=zq.mk (Kd.zq4 (Kd.ru HL375_1.out) hb);replace HR375_0:=zq.mk (Kd.qu (by repeat(first|(with_reducible exact HR375_0.out)|(with_reducible refine Kd.zke ?_ _)|(with_reducible refine Kd.zkd ?_ _)|(with_reducible refine Kd.zkw ?_)|exact HR375_0.out)) hb);replace HR375_1:=zq.mk (Kd.qu (by repeat(first|(with_reducible exact HR375_1.out)|(with_reducible refine Kd.zke ?_ _)|(with_reducible refine Kd.zkd ?_ _)|(with_reducible refine Kd.zkw ?_)|exact HR375_1.out)) hb);have BK376:=zq.mk (hbox);have GW376:=zq.mk ((by rw [hg];exact(zw bw):w.heap.size≤gb376));have GE376:=zq.mk ((by rw [hg];exact(zw bw):w.heap.size≤gb376));replace HB:=zq.mk (zn bw hb);have NB363_376:=zq.mk ((by rw [hg];exact Nat.ne_of_lt (zq3 (g:=gb363) (o:=.cells #[.slice A2_0 l2_0.length c2_0,.slice A2_1 l2_1.length c2_1] 32 (0,0)) (up BK363.out)):gb363≠gb376));have NB376_363:=zq.mk ((by rw [hg];exact Nat.ne_of_gt (zq3 (g:=gb363) (o:=.cells #[.slice A2_0 l2_0.length c2_0,.slice A2_1 l2_1.length c2_1] 32 (0,0)) (up BK363.out)):gb376≠gb363));replace BK363:=zq.mk (ze (g:=gb363) (o:=.cells #[.slice A2_0 l2_0.length c2_0,.slice A2_1 l2_1.length c2_1] 32 (0,0)) (up BK363.out) hb);clear hb hbox hg;have hnb39:=NB376_363.out;have hnc39:=NB363_376.out;obtain ⟨hcz40_0,hcz40_1,hfz40_0,hfz40_1⟩:=zji BK376.out;obtain ⟨hcz41_0,hcz41_1,hfz41_0,hfz41_1⟩:=zji BK363.out)|((with_reducible refine qh (f:=37) rfl ?_);refine zqn (some 51) rfl rfl Tryd.func37 (by kernel_rfl) rfl #[.slice A375_0 ((zjq t372 0).f0).length c375_0,.slice A2_0 l2_0.length c2_0] rfl gs ?_;(with_reducible refine(zqm.calls _ _ ((zjq t372 0).f0) _ _ l2_0 true _ ?side1 ?side2 ?side3 ?side4 A24.out).mono ?_);(case side1=>repeat(first|exact((Kd.zqk (Kd.ru (Kd.zqy (Kd.zxt (p:=⟨gb376,1,none⟩) (Kd.zxt (p:=⟨gb376,0,none⟩) (Kd.zj4 HL375_0.out BK376.out (by decide)) (fun _ hk=>hk.2) (.slice A375_0 ((zjq t372 0).f0).length c375_0)) (fun _ hk=>hk.2) (.slice A375_1 ((zjq t372 0).f1).length c375_1)) (fun _ h_=>h_.1)))).2.2)|(with_reducible refine Kd.zke ?_ _)|(with_reducible refine Kd.zkd ?_ _)|(with_reducible refine Kd.zkw ?_)));(case side2=>exact HC375_0.out);(case side3=>exact Kd.qu HR2_0.out bw);(case side4=>exact HC2_0.out);rintro e w' ⟨rfl,⟨nd,rfl⟩⟩;refine⟨_,rfl,?_⟩)|(go_at_call 37;(with_reducible refine(zqm.calls _ _ ((zjq t372 0).f1) _ _ l2_1 false _ ?side1 ?side2 ?side3 ?side4 A26.out).mono ?_);(case side1=>repeat(first|exact((Kd.zqk (Kd.ru (Kd.zqy (Kd.zxt (p:=⟨gb376,1,none⟩) (Kd.zxt (p:=⟨gb376,0,none⟩) (Kd.zj4 HL375_1.out BK376.out (by decide)) (fun _ hk=>hk.2) (.slice A375_0 ((zjq t372 0).f0).length c375_0)) (fun _ hk=>hk.2) (.slice A375_1 ((zjq t372 0).f1).length c375_1)) (fun _ h_=>h_.1)))).2.2)|(with_reducible refine Kd.zke ?_ _)|(with_reducible refine Kd.zkd ?_ _)|(with_reducible refine Kd.zkw ?_)));(case side2=>exact HC375_1.out);(case side3=>exact Kd.qu HR2_1.out bw);(case side4=>exact HC2_1.out);rintro e w' ⟨rfl,⟨nd,rfl⟩⟩))
        go_ret2
        exact⟨_,by first|rfl|(simp [zg,zy] <;> rfl)|(simp [*,zg,zy] <;> rfl),by first|exact Kd.zxf _ _ _ _ _|exact Kd.zx4 _ _ _ _ _|exact Kd.zxl _ _ _ _ _|exact Kd.zx3 _ _ _ _ _|exact Kd.zx2 _ _ _ _ _,bw⟩
       replace c25:=Bool.eq_false_iff.mpr c25
       subst c25
       rw [if_neg (show ¬ (false=true) by decide)] at H
       simp only [Option.some.injEq,Prod.mk.injEq] at H
       obtain ⟨rfl,rfl⟩:=H
       obtain ⟨Ao42,co42,eo42⟩:=Kd.zje HO_8.out
       subst eo42
       go_wp2_with (first|((with_reducible refine qh (f:=33) rfl ?_);refine zqn (some 44) rfl rfl Tryd.func33 (by kernel_rfl) rfl #[.slice A0 l0.length c0,.int .i64 a1,.slice Ao42 t365.length co42] rfl gs ?_;(with_reducible refine(zp.calls kj11 _ _ l0 a1 _ _ t365 t372 _ ?side1 ?side2 ?side3 ?side4 A22.out).mono ?_);(case side1=>exact Kd.cu (Kd.qu HR0.out HB.out));(case side2=>exact HC0.out);(case side3=>exact Kd.cu (Kd.zqk HO_8.out).2.2);(case side4=>exact(Kd.zqk HO_8.out).2.1);rintro e w43 ⟨v373,rfl,ho0,hb⟩;refine⟨_,rfl,?_⟩;replace HO_8:=zq.mk (Kd.zq4 (Kd.ru HO_8.out) hb);have HO374:=zq.mk (Kd.S_lower (Kd.S_newB ho0 (g:=gb363) (o:=.cells #[.slice A2_0 l2_0.length c2_0,.slice A2_1 l2_1.length c2_1] 32 (0,0)) (up BK363.out)) (zw bw));replace BK363:=zq.mk (ze (g:=gb363) (o:=.cells #[.slice A2_0 l2_0.length c2_0,.slice A2_1 l2_1.length c2_1] 32 (0,0)) (up BK363.out) hb);replace HB:=zq.mk (zn bw hb);(try clear hb);(try clear hb2);(try clear hk);(try clear hi);(try clear ho0);obtain ⟨Ao44,co44,eo44⟩:=Kd.S_slice HO374.out;subst eo44;have p375:0≤(0:Int):=(by omega);have q375:0<(t372.length:Int):=dt;obtain ⟨ad375,A375_0,c375_0,A375_1,c375_1,e375,hx375_0,hx375_1,hl375_0,hi375_0,hl375_1,hi375_1⟩:=at_T32 (Kd.zkz HO374.out).2.2 0 p375 q375;cases e375;obtain ⟨ce375,hce375,hMe375,hcc375⟩:=Kd.S_get HO374.out z32 0 p375 (by first|exact q375|exact dt|(have e_:=(Kd.zkz HO374.out).1;omega));obtain ⟨ve375_0,ve375_1,rfl,ge375_0,ge375_1⟩:=zv7 hMe375;have hv375_0:=hcc375 0 _ rfl;rw [Nat.add_zero] at hv375_0;replace hv375_0:=Option.some.inj (hv375_0.symm.trans hx375_0);rw [hv375_0] at ge375_0;have HL375_0:=zq.mk (show Kd.R (Kd.int .u8) 5 _ _ _ _ ((zjq t372 0).f0) from ge375_0);clear hv375_0 ge375_0;have hv375_1:=hcc375 1 _ rfl;rw [zj3 _ _ 1 (by omega)] at hv375_1;replace hv375_1:=Option.some.inj (hv375_1.symm.trans hx375_1);rw [hv375_1] at ge375_1;have HL375_1:=zq.mk (show Kd.R (Kd.int .u8) 5 _ _ _ _ ((zjq t372 0).f1) from ge375_1);clear hv375_1 ge375_1 hcc375 hce375;have qi375:(0<t372.length)=True:=eq_true (by omega);(try rw [show((0:Int)).toNat=0 from rfl] at hx375_0);(try rw [show 0 * 2=0 from rfl] at hx375_0);(try rw [Addr.add_zero'] at hx375_0);(try rw [show((0:Int)).toNat=0 from rfl] at hx375_1);(try rw [show 0 * 2=0 from rfl] at hx375_1);(try rw [Addr.add_zero'] at hx375_1);have HR375_0:=zq.mk hi375_0;have HC375_0:=zq.mk hl375_0;clear hi375_0 hl375_0;have HR375_1:=zq.mk hi375_1;have HC375_1:=zq.mk hl375_1;clear hi375_1 hl375_1;replace p375:=eq_true p375;replace q375:=eq_true q375)|((with_reducible refine qr (N:=11) rfl ?_);(try(refine ql (by rfl) ?_;dsimp only));refine qm ?hg (N:=11) ?hd (cs:=#[.slice none 0 0,.slice none 0 0]) (t:=32) ?hr ?_;(case hd=>rfl);(case hg=>rfl);(case hr=>first|(go_simp;done)|(go_simp;rfl));intro gb376 hg w45 hbox hb;replace HO_8:=zq.mk (Kd.zq4 (Kd.ru HO_8.out) hb);replace HO374:=zq.mk (Kd.zx7 (Kd.zvh (Kd.su HO374.out) gb376 (Nat.le_of_eq hg.symm)) hb);replace HL375_0:=zq.mk (Kd.zq4 (Kd.ru HL375_0.out) hb);replace HL375_1:=zq.mk (Kd.zq4 (Kd.ru HL375_1.out) hb);replace HR375_0:=zq.mk (Kd.qu (by repeat(first|(with_reducible exact HR375_0.out)|(with_reducible refine Kd.zke ?_ _)|(with_reducible refine Kd.zkd ?_ _)|(with_reducible refine Kd.zkw ?_)|exact HR375_0.out)) hb);replace HR375_1:=zq.mk (Kd.qu (by repeat(first|(with_reducible exact HR375_1.out)|(with_reducible refine Kd.zke ?_ _)|(with_reducible refine Kd.zkd ?_ _)|(with_reducible refine Kd.zkw ?_)|exact HR375_1.out)) hb);have BK376:=zq.mk (hbox);have GW376:=zq.mk ((by rw [hg];exact(zw bw):w.heap.size≤gb376));have GE376:=zq.mk ((by rw [hg];exact(zw bw):w.heap.size≤gb376));replace HB:=zq.mk (zn bw hb);have NB363_376:=zq.mk ((by rw [hg];exact Nat.ne_of_lt (zq3 (g:=gb363) (o:=.cells #[.slice A2_0 l2_0.length c2_0,.slice A2_1 l2_1.length c2_1] 32 (0,0)) (up BK363.out)):gb363≠gb376));have NB376_363:=zq.mk ((by rw [hg];exact Nat.ne_of_gt (zq3 (g:=gb363) (o:=.cells #[.slice A2_0 l2_0.length c2_0,.slice A2_1 l2_1.length c2_1] 32 (0,0)) (up BK363.out)):gb376≠gb363));replace BK363:=zq.mk (ze (g:=gb363) (o:=.cells #[.slice A2_0 l2_0.length c2_0,.slice A2_1 l2_1.length c2_1] 32 (0,0)) (up BK363.out) hb);clear hb hbox hg;have hnb46:=NB376_363.out;have hnc46:=NB363_376.out;obtain ⟨hcz47_0,hcz47_1,hfz47_0,hfz47_1⟩:=zji BK376.out;obtain ⟨hcz48_0,hcz48_1,hfz48_0,hfz48_1⟩:=zji BK363.out)|((with_reducible refine qh (f:=37) rfl ?_);refine zqn (some 51) rfl rfl Tryd.func37 (by kernel_rfl) rfl #[.slice A375_0 ((zjq t372 0).f0).length c375_0,.slice A2_0 l2_0.length c2_0] rfl gs ?_;(with_reducible refine(zqm.calls _ _ ((zjq t372 0).f0) _ _ l2_0 false _ ?side1 ?side2 ?side3 ?side4 A24.out).mono ?_);(case side1=>repeat(first|exact((Kd.zqk (Kd.ru (Kd.zqy (Kd.zxt (p:=⟨gb376,1,none⟩) (Kd.zxt (p:=⟨gb376,0,none⟩) (Kd.zj4 HL375_0.out BK376.out (by decide)) (fun _ hk=>hk.2) (.slice A375_0 ((zjq t372 0).f0).length c375_0)) (fun _ hk=>hk.2) (.slice A375_1 ((zjq t372 0).f1).length c375_1)) (fun _ h_=>h_.1)))).2.2)|(with_reducible refine Kd.zke ?_ _)|(with_reducible refine Kd.zkd ?_ _)|(with_reducible refine Kd.zkw ?_)));(case side2=>exact HC375_0.out);(case side3=>exact Kd.qu HR2_0.out bw);(case side4=>exact HC2_0.out);rintro e w' ⟨rfl,⟨nd,rfl⟩⟩;refine⟨_,rfl,?_⟩))
       go_ret2
       exact⟨_,by first|rfl|(simp [zg,zy] <;> rfl)|(simp [*,zg,zy] <;> rfl),by first|exact Kd.zxf _ _ _ _ _|exact Kd.zx4 _ _ _ _ _|exact Kd.zxl _ _ _ _ _|exact Kd.zx3 _ _ _ _ _|exact Kd.zx2 _ _ _ _ _,bw⟩
      rw [if_neg c23] at H
      exact absurd H (by simp)
 replace c5:=Bool.eq_false_iff.mpr c5
 subst c5
 rw [if_neg (show ¬ (false=true) by decide)] at H
 simp only [Option.some.injEq,Prod.mk.injEq] at H
 obtain ⟨rfl,rfl⟩:=H
 go_enter Tryd.func14,Tryd.ntmps14
 go_wp2_with (first|((with_reducible refine qr (N:=5) rfl ?_);(try(refine ql (by rfl) ?_;dsimp only));refine qm ?hg (N:=5) ?hd (cs:=#[.slice A2_0 l2_0.length c2_0,.slice A2_1 l2_1.length c2_1]) (t:=32) ?hr ?_;(case hd=>rfl);(case hg=>rfl);(case hr=>first|(go_simp;done)|(go_simp;rfl));intro gb363 hg w49 hbox hb;have BK363:=zq.mk (hbox);have GW363:=zq.mk ((by rw [hg];exact(zw bw):w.heap.size≤gb363));have GE363:=zq.mk ((by rw [hg];exact(zw bw):w.heap.size≤gb363));replace HB:=zq.mk (zn bw hb);clear hb hbox hg)|((with_reducible refine qh (f:=31) rfl ?_);refine zqn (some 13) rfl rfl Tryd.func31 (by kernel_rfl) rfl #[.slice A0 l0.length c0] rfl gs ?_;(with_reducible refine(zi.calls k _ _ l0 false _ ?side1 ?side2 A4.out).mono ?_);(case side1=>exact Kd.cu (Kd.qu HR0.out HB.out));(case side2=>exact HC0.out);rintro e w50 ⟨rfl,hb⟩;refine⟨_,rfl,?_⟩;replace BK363:=zq.mk (ze (g:=gb363) (o:=.cells #[.slice A2_0 l2_0.length c2_0,.slice A2_1 l2_1.length c2_1] 32 (0,0)) (up BK363.out) hb);replace HB:=zq.mk (zn bw hb);(try clear hb);(try clear hb2);(try clear hk);(try clear hi)))
 go_ret2
 exact⟨_,by first|rfl|(simp [zg,zy] <;> rfl)|(simp [*,zg,zy] <;> rfl),by first|exact Kd.zxf _ _ _ _ _|exact Kd.zx4 _ _ _ _ _|exact Kd.zxl _ _ _ _ _|exact Kd.zx3 _ _ _ _ _|exact Kd.zx2 _ _ _ _ _,bw⟩

/-! ### qp: function 15 -/
def qp.l0:Nat→List (S38)→List (S38)→Int→Option (Bool)
 | 0,_,_,_=>none
 | k+1,x0,x1,x5=>if x5<(x0.length:Int) then(if 0≤x5 then(if x5<(x1.length:Int) then(if(!(((qf x0 x5).f0) == ((qf x1 x5).f0)) || (!(((qf x0 x5).f1) == ((qf x1 x5).f1)) || (!((((qf x0 x5).f2).toList) == (((qf x1 x5).f2).toList)))))=true then(some false) else (qp.l0 k x0 x1 (wrap64 (x5+1)))) else (none)) else (none)) else (some true)
def qp.f (k:Nat) (l0:List (S38)) (l1:List (S38)):Option (Bool):=if(l0.length:Int)=(l1.length:Int) then(qp.l0 k l0 l1 0) else (some false)
theorem qp.mono_l:∀ k,(∀ y0 y1 y2,LeO (qp.l0 k y0 y1 y2) (qp.l0 (k+1) y0 y1 y2))
 | 0=>fun _ _ _ r h=>by simp [qp.l0] at h
 | k+1=>by
  have ih0:=qp.mono_l k
  intro y0 y1 y2
  unfold qp.l0
  repeat' first
  | (with_reducible first|exact ih0 _ _ _|exact LeO.refl _|exact LeO.none _|refine LeO.ite ?_ ?_|refine LeO.bind ?_ (fun _=>?_))
  | exact ih0 _ _ _
  | exact LeO.none _
  | refine LeO.ite ?_ ?_
  | refine LeO.bind ?_ (fun _=>?_)
theorem qp.mono:∀ a0 a1 k,LeO (qp.f k a0 a1) (qp.f (k+1) a0 a1):=by
 intro a0 a1 k
 have ih0:=qp.mono_l k
 unfold qp.f
 repeat' first
   | (with_reducible first|exact ih0 _ _ _|exact LeO.refl _|exact LeO.none _|refine LeO.ite ?_ ?_|refine LeO.bind ?_ (fun _=>?_))
   | exact ih0 _ _ _
   | exact LeO.none _
   | refine LeO.ite ?_ ?_
   | refine LeO.bind ?_ (fun _=>?_)
set_option maxHeartbeats 8000000 in
set_option maxRecDepth 100000 in
theorem qp.calls (k:Nat) (A0:Option Addr) (c0:Nat) (l0:List (S38)) (A1:Option Addr) (c1:Nat) (l1:List (S38)) (r:Bool) (w:World) (hr0:Kd.C k38 w A0 l0.length l0) (hc0:l0.length≤c0) (hr1:Kd.C k38 w A1 l1.length l1) (hc1:l1.length≤c1) (h:qp.f k l0 l1=some r) :
  Calls Tryd.prog 15 #[.slice A0 l0.length c0,.slice A1 l1.length c1] w fun e w'=>e = .returned (.bool r)∧za w w':=by
 have hu38:=Tryd.underlying38
 have HR0:=zq.mk hr0
 have HC0:=zq.mk hc0
 clear hr0 hc0
 have HR1:=zq.mk hr1
 have HC1:=zq.mk hc1
 clear hr1 hc1
 have H:(if(l0.length:Int)=(l1.length:Int) then(qp.l0 k l0 l1 0) else (some false))=some r:=h
 clear h
 by_cases c3:(l0.length:Int)=(l1.length:Int)
 ·rw [if_pos c3] at H
  have c3b0:((l0.length:Int) == (l1.length:Int))=true:=beq_iff_eq.mpr c3
  have c3b1:((l0.length:Int) != (l1.length:Int))=false:=bne_eq_false_iff_eq.mpr c3
  have c3b2:(l0.length == l1.length)=true:=by first|simpa using c3|(simp at c3 ⊢;omega)
  clear c3
  have H':=zq.mk H
  clear H
  go_enter Tryd.func15,Tryd.ntmps15
  go_wp2
  repeat(go_quiet (fail);try go_wp2)
  go_loopg [5] k (fun kq v5 w' => ∃ (x5_1:Int),v5 = .int .i64 x5_1∧zq (qp.l0 kq l0 l1 x5_1=some r)∧zq (kq≤k)∧za w w')
  case atStart=>exact⟨(0),vr,H',⟨Nat.le_refl _⟩,by repeat(first|exact za.refl _|apply za.step)⟩
  case round=>
   clear H'
   (try clear c1);(try clear c3);(try clear c3b0);(try clear c3b1);(try clear c3b2)
   obtain ⟨x5_1,rfl,HA,HK1,⟨m1,rfl⟩⟩:=hrel
   cases gk with
   | zero=>exact absurd HA.out (by simp [qp.l0])
   | succ k1=>
    have H:=HA.out
    clear HA
    simp only [qp.l0] at H
    by_cases c4:x5_1<(l0.length:Int)
    ·rw [if_pos c4] at H
     have c4b0:=decide_eq_true c4
     clear c4
     by_cases c5:0≤x5_1
     ·rw [if_pos c5] at H
      have c5b0:=decide_eq_true c5
      clear c5
      by_cases c6:x5_1<(l1.length:Int)
      ·rw [if_pos c6] at H
       have c6b0:=decide_eq_true c6
       clear c6
       by_cases c7:(!(((qf l0 x5_1).f0) == ((qf l1 x5_1).f0)) || (!(((qf l0 x5_1).f1) == ((qf l1 x5_1).f1)) || (!((((qf l0 x5_1).f2).toList) == (((qf l1 x5_1).f2).toList)))))=true
       ·rw [if_pos c7] at H
        have c7b0:(!(((qf l0 x5_1).f0) == ((qf l1 x5_1).f0)) || (!(((qf l0 x5_1).f1) == ((qf l1 x5_1).f1)) || (!((((qf l0 x5_1).f2).toList) == (((qf l1 x5_1).f2).toList)))))=true:=c7
        clear c7
        obtain rfl:=Option.some.inj H
        have p379:0≤(x5_1:Int):=dt
        have q379:x5_1<(l0.length:Int):=dt
        obtain ⟨ad379,e379,hx379_0,hx379_1,hx379_2⟩:=zxq HR0.out x5_1 p379 q379
        cases e379
        replace p379:=eq_true p379
        replace q379:=eq_true q379
        have p380:0≤(x5_1:Int):=dt
        have q380:x5_1<(l1.length:Int):=dt
        obtain ⟨ad380,e380,hx380_0,hx380_1,hx380_2⟩:=zxq HR1.out x5_1 p380 q380
        cases e380
        replace p380:=eq_true p380
        replace q380:=eq_true q380
        go_wp2
        repeat(go_quiet (fail);try go_wp2)
        go_ret
        exact⟨by first|rfl|(simp;done)|(simp [*];done),by repeat(first|exact za.refl _|apply za.step)⟩
       rw [if_neg c7] at H
       have c7b0:(!(((qf l0 x5_1).f0) == ((qf l1 x5_1).f0)) || (!(((qf l0 x5_1).f1) == ((qf l1 x5_1).f1)) || (!((((qf l0 x5_1).f2).toList) == (((qf l1 x5_1).f2).toList)))))=false:=by simpa using c7
       clear c7
       have H':=zq.mk H
       clear H
       have p379:0≤(x5_1:Int):=dt
       have q379:x5_1<(l0.length:Int):=dt
       obtain ⟨ad379,e379,hx379_0,hx379_1,hx379_2⟩:=zxq HR0.out x5_1 p379 q379
       cases e379
       replace p379:=eq_true p379
       replace q379:=eq_true q379
       have p380:0≤(x5_1:Int):=dt
       have q380:x5_1<(l1.length:Int):=dt
       obtain ⟨ad380,e380,hx380_0,hx380_1,hx380_2⟩:=zxq HR1.out x5_1 p380 q380
       cases e380
       replace p380:=eq_true p380
       replace q380:=eq_true q380
       go_wp2
       repeat(go_quiet (fail);try go_wp2)
       go_roundg k1
       case measure=>have:=HK1.out;omega
       case rel=>exact⟨(wrap64 (x5_1+1)),vr,H',⟨by have:=HK1.out;omega⟩,by repeat(first|exact za.refl _|apply za.step)⟩
      rw [if_neg c6] at H
      exact absurd H (by simp)
     rw [if_neg c5] at H
     exact absurd H (by simp)
    rw [if_neg c4] at H
    have c4b0:=decide_eq_false c4
    clear c4
    obtain rfl:=Option.some.inj H
    go_wp2
    repeat(go_quiet (fail);try go_wp2)
    go_ret
    exact⟨by first|rfl|(simp;done)|(simp [*];done),by repeat(first|exact za.refl _|apply za.step)⟩
 rw [if_neg c3] at H
 have c3b0:((l0.length:Int) == (l1.length:Int))=false:=beq_eq_false_iff_ne.mpr c3
 have c3b1:((l0.length:Int) != (l1.length:Int))=true:=bne_iff_ne.mpr c3
 have c3b2:(l0.length == l1.length)=false:=by first|simpa using c3|(simp at c3 ⊢;omega)
 obtain rfl:=Option.some.inj H
 go_enter Tryd.func15,Tryd.ntmps15
 go_wp2
 repeat(go_quiet (fail);try go_wp2)
 go_ret
 exact⟨by first|rfl|(simp;done)|(simp [*];done),by repeat(first|exact za.refl _|apply za.step)⟩

/-! ### commonholdlaw_RowReads: function 4 -/
def commonholdlaw_RowReads.f (k:Nat) (l0:List (S61)) (a1:Int) (l2_0:List Int) (l2_1:List Int):Option (Bool):=(zxn.f k l0 a1 l2_0 l2_1).bind fun bt382=>((qy.f k l0 a1 l2_0 l2_1).bind fun bt386=>((qp.f k bt382.1 bt386.1).bind fun t390=>(if t390=true then(some (bt382.2 == bt386.2)) else (some false))))
theorem commonholdlaw_RowReads.mono:∀ a0 a1 a2 a3 k,LeO (commonholdlaw_RowReads.f k a0 a1 a2 a3) (commonholdlaw_RowReads.f (k+1) a0 a1 a2 a3):=by
 intro a0 a1 a2 a3 k
 unfold commonholdlaw_RowReads.f
 repeat' first
   | (with_reducible first|exact qp.mono _ _ _|exact qy.mono _ _ _ _ _|exact zxn.mono _ _ _ _ _|exact LeO.refl _|exact LeO.none _|refine LeO.ite ?_ ?_|refine LeO.bind ?_ (fun _=>?_))
   | exact qp.mono _ _ _
   | exact qy.mono _ _ _ _ _
   | exact zxn.mono _ _ _ _ _
   | exact LeO.none _
   | refine LeO.ite ?_ ?_
   | refine LeO.bind ?_ (fun _=>?_)
set_option maxHeartbeats 8000000 in
set_option maxRecDepth 100000 in
theorem commonholdlaw_RowReads.calls (k:Nat) (A0:Option Addr) (c0:Nat) (l0:List (S61)) (a1:Int) (A2_0:Option Addr) (c2_0:Nat) (l2_0:List Int) (A2_1:Option Addr) (c2_1:Nat) (l2_1:List Int) (r:Bool) (w:World) (hr0:Kd.C k61 w A0 l0.length l0) (hc0:l0.length≤c0) (hr2_0:Kd.C (Kd.int .u8) w A2_0 l2_0.length l2_0) (hc2_0:l2_0.length≤c2_0) (hr2_1:Kd.C (Kd.int .u8) w A2_1 l2_1.length l2_1) (hc2_1:l2_1.length≤c2_1) (hL:LD w) (h:commonholdlaw_RowReads.f k l0 a1 l2_0 l2_1=some r) :
  Calls Tryd.prog 4 #[.slice A0 l0.length c0,.int .i64 a1,.agg #[.slice A2_0 l2_0.length c2_0,.slice A2_1 l2_1.length c2_1]] w fun e w'=>e = .returned (.bool r)∧Below w.heap.size w w':=by
 have hu32:=Tryd.underlying32
 have HLD:=zq.mk hL
 clear hL
 have HR0:=zq.mk hr0
 have HC0:=zq.mk hc0
 clear hr0 hc0
 have HR2_0:=zq.mk hr2_0
 have HC2_0:=zq.mk hc2_0
 clear hr2_0 hc2_0
 have HR2_1:=zq.mk hr2_1
 have HC2_1:=zq.mk hc2_1
 clear hr2_1 hc2_1
 have HB:=zq.mk (Below.refl w.heap.size w)
 have H:((zxn.f k l0 a1 l2_0 l2_1).bind fun bt382=>((qy.f k l0 a1 l2_0 l2_1).bind fun bt386=>((qp.f k bt382.1 bt386.1).bind fun t390=>(if t390=true then(some (bt382.2 == bt386.2)) else (some false)))))=some r:=h
 clear h
 replace H:=Option.bind_eq_some_iff.mp H
 obtain ⟨⟨t382,t385⟩,A40,H⟩:=H
 replace H:((qy.f k l0 a1 l2_0 l2_1).bind fun bt386=>((qp.f k t382 bt386.1).bind fun t390=>(if t390=true then(some (t385 == bt386.2)) else (some false))))=some r:=H
 have A4:=zq.mk A40
 clear A40
 replace H:=Option.bind_eq_some_iff.mp H
 obtain ⟨⟨t386,t389⟩,A50,H⟩:=H
 replace H:((qp.f k t382 t386).bind fun t390=>(if t390=true then(some (t385 == t389)) else (some false)))=some r:=H
 have A5:=zq.mk A50
 clear A50
 replace H:=Option.bind_eq_some_iff.mp H
 obtain ⟨t390,A60,H⟩:=H
 replace H:(if t390=true then(some (t385 == t389)) else (some false))=some r:=H
 have A6:=zq.mk A60
 clear A60
 by_cases c7:t390=true
 ·subst c7
  rw [if_pos rfl] at H
  obtain rfl:=Option.some.inj H
  go_enter Tryd.func4,Tryd.ntmps4
  go_wp2_with (first|((with_reducible refine qr (N:=5) rfl ?_);refine qm ?hg (N:=5) ?hd (cs:=#[.slice A2_0 l2_0.length c2_0,.slice A2_1 l2_1.length c2_1]) (t:=32) ?hr ?_;(case hd=>rfl);(case hg=>rfl);(case hr=>first|(go_simp;done)|(go_simp;rfl));intro gb381 hg w8 hbox hb;have BK381:=zq.mk (hbox);have GW381:=zq.mk ((by rw [hg];exact(zw bw):w.heap.size≤gb381));have GE381:=zq.mk ((by rw [hg];exact(zw bw):w.heap.size≤gb381));replace HB:=zq.mk (zn bw hb);clear hb hbox hg;obtain ⟨hcz9_0,hcz9_1,hfz9_0,hfz9_1⟩:=zji BK381.out)|((with_reducible refine qh (f:=13) rfl ?_);refine zqn (some 15) rfl rfl Tryd.func13 (by kernel_rfl) rfl #[.slice A0 l0.length c0,.int .i64 a1,.agg #[.slice A2_0 l2_0.length c2_0,.slice A2_1 l2_1.length c2_1]] rfl gs ?_;(with_reducible refine(zxn.calls k _ _ l0 a1 _ _ l2_0 _ _ l2_1 t382 t385 _ ?side1 ?side2 ?side3 ?side4 ?side5 ?side6 ?side7 A4.out).mono ?_);(case side1=>exact Kd.cu (Kd.qu HR0.out HB.out));(case side2=>exact HC0.out);(case side3=>exact Kd.cu (Kd.qu HR2_0.out HB.out));(case side4=>exact HC2_0.out);(case side5=>exact Kd.cu (Kd.qu HR2_1.out HB.out));(case side6=>exact HC2_1.out);(case side7=>exact LD.below HLD.out (by first|(with_reducible exact Below.refl _ _)|((repeat(first|(with_reducible exact Below.refl _ _)|(with_reducible apply zl)|(with_reducible apply zr)|(with_reducible apply qx)));done)|exact bw));rintro e w10 ⟨v383,rfl,ho0,hb⟩;refine⟨_,rfl,?_⟩;have HO384:=zq.mk (Kd.zjs ho0 (zw bw));replace BK381:=zq.mk (ze (g:=gb381) (o:=.cells #[.slice A2_0 l2_0.length c2_0,.slice A2_1 l2_1.length c2_1] 32 (0,0)) (up BK381.out) hb);replace HB:=zq.mk (zn bw hb);(try clear hb);(try clear hb2);(try clear hk);(try clear hi);(try clear ho0);obtain ⟨hcz11_0,hcz11_1,hfz11_0,hfz11_1⟩:=zji BK381.out)|((with_reducible refine qh (f:=14) rfl ?_);refine zqn (some 22) rfl rfl Tryd.func14 (by kernel_rfl) rfl #[.slice A0 l0.length c0,.int .i64 a1,.agg #[.slice A2_0 l2_0.length c2_0,.slice A2_1 l2_1.length c2_1]] rfl gs ?_;(with_reducible refine(qy.calls k _ _ l0 a1 _ _ l2_0 _ _ l2_1 t386 t389 _ ?side1 ?side2 ?side3 ?side4 ?side5 ?side6 A5.out).mono ?_);(case side1=>exact Kd.cu (Kd.qu HR0.out HB.out));(case side2=>exact HC0.out);(case side3=>exact Kd.cu (Kd.qu HR2_0.out HB.out));(case side4=>exact HC2_0.out);(case side5=>exact Kd.cu (Kd.qu HR2_1.out HB.out));(case side6=>exact HC2_1.out);rintro e w12 ⟨v387,rfl,ho0,hb⟩;refine⟨_,rfl,?_⟩;have HO388:=zq.mk (Kd.zjs (Kd.R_new' ho0 (Kd.R_lt (Kd.ru HO384.out))) (zw bw));replace HO384:=zq.mk (Kd.zk0 (Kd.ru HO384.out) (Kd.zxh ho0) hb);replace BK381:=zq.mk (ze (g:=gb381) (o:=.cells #[.slice A2_0 l2_0.length c2_0,.slice A2_1 l2_1.length c2_1] 32 (0,0)) (up BK381.out) hb);replace HB:=zq.mk (zn bw hb);(try clear hb);(try clear hb2);(try clear hk);(try clear hi);(try clear ho0);obtain ⟨Ao13,co13,eo13⟩:=Kd.zje HO384.out;subst eo13;obtain ⟨Ao14,co14,eo14⟩:=Kd.zje HO388.out;subst eo14)|((with_reducible refine qh (f:=15) rfl ?_);refine zqn (some 27) rfl rfl Tryd.func15 (by kernel_rfl) rfl #[.slice Ao13 t382.length co13,.slice Ao14 t386.length co14] rfl gs ?_;(with_reducible refine(qp.calls k _ _ t382 _ _ t386 true _ ?side1 ?side2 ?side3 ?side4 A6.out).mono ?_);(case side1=>exact Kd.cu (Kd.zqk HO384.out).2.2);(case side2=>exact(Kd.zqk HO384.out).2.1);(case side3=>exact Kd.cu (Kd.zqk HO388.out).2.2);(case side4=>exact(Kd.zqk HO388.out).2.1);rintro e w' ⟨rfl,⟨nd,rfl⟩⟩;refine⟨_,rfl,?_⟩))
  go_ret
  exact⟨by first|rfl|(simp [zg,zy] <;> rfl)|(simp [*,zg,zy] <;> rfl),bw⟩
 replace c7:=Bool.eq_false_iff.mpr c7
 subst c7
 rw [if_neg (show ¬ (false=true) by decide)] at H
 obtain rfl:=Option.some.inj H
 go_enter Tryd.func4,Tryd.ntmps4
 go_wp2_with (first|((with_reducible refine qr (N:=5) rfl ?_);refine qm ?hg (N:=5) ?hd (cs:=#[.slice A2_0 l2_0.length c2_0,.slice A2_1 l2_1.length c2_1]) (t:=32) ?hr ?_;(case hd=>rfl);(case hg=>rfl);(case hr=>first|(go_simp;done)|(go_simp;rfl));intro gb381 hg w15 hbox hb;have BK381:=zq.mk (hbox);have GW381:=zq.mk ((by rw [hg];exact(zw bw):w.heap.size≤gb381));have GE381:=zq.mk ((by rw [hg];exact(zw bw):w.heap.size≤gb381));replace HB:=zq.mk (zn bw hb);clear hb hbox hg;obtain ⟨hcz16_0,hcz16_1,hfz16_0,hfz16_1⟩:=zji BK381.out)|((with_reducible refine qh (f:=13) rfl ?_);refine zqn (some 15) rfl rfl Tryd.func13 (by kernel_rfl) rfl #[.slice A0 l0.length c0,.int .i64 a1,.agg #[.slice A2_0 l2_0.length c2_0,.slice A2_1 l2_1.length c2_1]] rfl gs ?_;(with_reducible refine(zxn.calls k _ _ l0 a1 _ _ l2_0 _ _ l2_1 t382 t385 _ ?side1 ?side2 ?side3 ?side4 ?side5 ?side6 ?side7 A4.out).mono ?_);(case side1=>exact Kd.cu (Kd.qu HR0.out HB.out));(case side2=>exact HC0.out);(case side3=>exact Kd.cu (Kd.qu HR2_0.out HB.out));(case side4=>exact HC2_0.out);(case side5=>exact Kd.cu (Kd.qu HR2_1.out HB.out));(case side6=>exact HC2_1.out);(case side7=>exact LD.below HLD.out (by first|(with_reducible exact Below.refl _ _)|((repeat(first|(with_reducible exact Below.refl _ _)|(with_reducible apply zl)|(with_reducible apply zr)|(with_reducible apply qx)));done)|exact bw));rintro e w17 ⟨v383,rfl,ho0,hb⟩;refine⟨_,rfl,?_⟩;have HO384:=zq.mk (Kd.zjs ho0 (zw bw));replace BK381:=zq.mk (ze (g:=gb381) (o:=.cells #[.slice A2_0 l2_0.length c2_0,.slice A2_1 l2_1.length c2_1] 32 (0,0)) (up BK381.out) hb);replace HB:=zq.mk (zn bw hb);(try clear hb);(try clear hb2);(try clear hk);(try clear hi);(try clear ho0);obtain ⟨hcz18_0,hcz18_1,hfz18_0,hfz18_1⟩:=zji BK381.out)|((with_reducible refine qh (f:=14) rfl ?_);refine zqn (some 22) rfl rfl Tryd.func14 (by kernel_rfl) rfl #[.slice A0 l0.length c0,.int .i64 a1,.agg #[.slice A2_0 l2_0.length c2_0,.slice A2_1 l2_1.length c2_1]] rfl gs ?_;(with_reducible refine(qy.calls k _ _ l0 a1 _ _ l2_0 _ _ l2_1 t386 t389 _ ?side1 ?side2 ?side3 ?side4 ?side5 ?side6 A5.out).mono ?_);(case side1=>exact Kd.cu (Kd.qu HR0.out HB.out));(case side2=>exact HC0.out);(case side3=>exact Kd.cu (Kd.qu HR2_0.out HB.out));(case side4=>exact HC2_0.out);(case side5=>exact Kd.cu (Kd.qu HR2_1.out HB.out));(case side6=>exact HC2_1.out);rintro e w19 ⟨v387,rfl,ho0,hb⟩;refine⟨_,rfl,?_⟩;have HO388:=zq.mk (Kd.zjs (Kd.R_new' ho0 (Kd.R_lt (Kd.ru HO384.out))) (zw bw));replace HO384:=zq.mk (Kd.zk0 (Kd.ru HO384.out) (Kd.zxh ho0) hb);replace BK381:=zq.mk (ze (g:=gb381) (o:=.cells #[.slice A2_0 l2_0.length c2_0,.slice A2_1 l2_1.length c2_1] 32 (0,0)) (up BK381.out) hb);replace HB:=zq.mk (zn bw hb);(try clear hb);(try clear hb2);(try clear hk);(try clear hi);(try clear ho0);obtain ⟨Ao20,co20,eo20⟩:=Kd.zje HO384.out;subst eo20;obtain ⟨Ao21,co21,eo21⟩:=Kd.zje HO388.out;subst eo21)|((with_reducible refine qh (f:=15) rfl ?_);refine zqn (some 27) rfl rfl Tryd.func15 (by kernel_rfl) rfl #[.slice Ao20 t382.length co20,.slice Ao21 t386.length co21] rfl gs ?_;(with_reducible refine(qp.calls k _ _ t382 _ _ t386 false _ ?side1 ?side2 ?side3 ?side4 A6.out).mono ?_);(case side1=>exact Kd.cu (Kd.zqk HO384.out).2.2);(case side2=>exact(Kd.zqk HO384.out).2.1);(case side3=>exact Kd.cu (Kd.zqk HO388.out).2.2);(case side4=>exact(Kd.zqk HO388.out).2.1);rintro e w' ⟨rfl,⟨nd,rfl⟩⟩;refine⟨_,rfl,?_⟩))
 go_ret
 exact⟨by first|rfl|(simp [zg,zy] <;> rfl)|(simp [*,zg,zy] <;> rfl),bw⟩

def gd90 (x_:S90):Prop:=(fun s_:ByteArray=>s_.size≤9223372036854775807) x_.f0∧(fun n_:Int=>(Lit.int .i64 n_).wf=true) x_.f1∧(fun _:Bool=>True) x_.f2
def zd90 (x_:S90):Prop:=(fun s_:ByteArray=>s_.size≤140737488351232) x_.f0∧(fun _:Int=>True) x_.f1∧(fun _:Bool=>True) x_.f2
def bd90 (x_:S90):Nat:=((fun s_:ByteArray=>s_.size+1) x_.f0+((fun _:Int=>1) x_.f1+(fun _:Bool=>1) x_.f2))+1
def gd96 (x_:S96):Prop:=(fun s_:ByteArray=>s_.size≤9223372036854775807) x_.f0∧(fun xs_:List (Int)=>xs_.length≤9223372036854775807 ∧ ∀ x_ ∈ xs_,(fun n_:Int=>(Lit.int .i64 n_).wf=true) x_) x_.f1
def zd96 (x_:S96):Prop:=(fun s_:ByteArray=>s_.size≤140737488351232) x_.f0∧(fun xs_:List (Int)=>xs_.length * 8≤140737488351232 ∧ ∀ x_ ∈ xs_,(fun _:Int=>True) x_) x_.f1
def bd96 (x_:S96):Nat:=((fun s_:ByteArray=>s_.size+1) x_.f0+(fun xs_:List (Int)=>(xs_.map (fun _:Int=>1)).sum+1) x_.f1)+1
def gd61 (x_:S61):Prop:=(fun s_:ByteArray=>s_.size≤9223372036854775807) x_.f0∧(fun xs_:List (S90)=>xs_.length≤9223372036854775807 ∧ ∀ x_ ∈ xs_,gd90 x_) x_.f1∧(fun xs_:List (Int)=>xs_.length≤9223372036854775807 ∧ ∀ x_ ∈ xs_,(fun n_:Int=>(Lit.int .i64 n_).wf=true) x_) x_.f2∧(fun xs_:List (S96)=>xs_.length≤9223372036854775807 ∧ ∀ x_ ∈ xs_,gd96 x_) x_.f3
def zd61 (x_:S61):Prop:=(fun s_:ByteArray=>s_.size≤140737488351232) x_.f0∧(fun xs_:List (S90)=>xs_.length * 32≤140737488351232 ∧ ∀ x_ ∈ xs_,zd90 x_) x_.f1∧(fun xs_:List (Int)=>xs_.length * 8≤140737488351232 ∧ ∀ x_ ∈ xs_,(fun _:Int=>True) x_) x_.f2∧(fun xs_:List (S96)=>xs_.length * 40≤140737488351232 ∧ ∀ x_ ∈ xs_,zd96 x_) x_.f3
def bd61 (x_:S61):Nat:=((fun s_:ByteArray=>s_.size+1) x_.f0+((fun xs_:List (S90)=>(xs_.map bd90).sum+1) x_.f1+((fun xs_:List (Int)=>(xs_.map (fun _:Int=>1)).sum+1) x_.f2+(fun xs_:List (S96)=>(xs_.map bd96).sum+1) x_.f3)))+1
def gd32 (x_:S32):Prop:=(fun xs_:List (Int)=>xs_.length≤9223372036854775807 ∧ ∀ x_ ∈ xs_,(fun n_:Int=>(Lit.int .u8 n_).wf=true) x_) x_.f0∧(fun xs_:List (Int)=>xs_.length≤9223372036854775807 ∧ ∀ x_ ∈ xs_,(fun n_:Int=>(Lit.int .u8 n_).wf=true) x_) x_.f1
def zd32 (x_:S32):Prop:=(fun xs_:List (Int)=>xs_.length * 1≤140737488351232 ∧ ∀ x_ ∈ xs_,(fun _:Int=>True) x_) x_.f0∧(fun xs_:List (Int)=>xs_.length * 1≤140737488351232 ∧ ∀ x_ ∈ xs_,(fun _:Int=>True) x_) x_.f1
def bd32 (x_:S32):Nat:=((fun xs_:List (Int)=>(xs_.map (fun _:Int=>1)).sum+1) x_.f0+(fun xs_:List (Int)=>(xs_.map (fun _:Int=>1)).sum+1) x_.f1)+1
def commonholdlaw_RowReads.Pure:Prop := ∀ (a0:List (S61)) (a1:Int) (a2:S32),(fun xs_:List (S61)=>xs_.length≤9223372036854775807 ∧ ∀ x_ ∈ xs_,gd61 x_) a0→(fun n_:Int=>(Lit.int .i64 n_).wf=true) a1→gd32 a2→(fun xs_:List (S61)=>xs_.length * 88≤140737488351232 ∧ ∀ x_ ∈ xs_,zd61 x_) a0→zd32 a2 → ∃ k,commonholdlaw_RowReads.f k a0 a1 a2.f0 a2.f1=some true

end Go.Proofs.YthhejedfjgikdaaDoor.PRowReads
