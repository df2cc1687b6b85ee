-- Written by wip/pp of this repo (over the kit's print, with additions of this session); Lean checks every line.
import Derived.Test.YthhejedfjgikdaaDoorPRowReadsx7
namespace Go.Proofs.YthhejedfjgikdaaDoor.PRowReads
open Go.RowKit Go.Proofs.YthhejedfjgikdaaDoorW.PrintWords Go.Proofs.YthhejedfjgikdaaDoorW.PrintLast Go.Proofs.YthhejedfjgikdaaDoorW.PrintMore
attribute [local go_sem] zjo zjm zjw zjv zja zq9 zjn zjl   -- for this text's walks alone
set_option linter.unusedVariables false
set_option linter.unusedSimpArgs false

/-! ### zq0: function 98 -/
def zq0.l0:Nat→List (S38)→List (S38)→List Int→Int→Int→Option ((List (S38)))
 | 0,_,_,_,_,_=>none
 | k+1,x0,x5,x8,x9,x10=>if x10<x9 then(if 0≤x10 then(if x10<(x8.length:Int) then(if 0≤(rd x8 x10) then(if(rd x8 x10)<(x0.length:Int) then(if x5.length<4398046511104 then(zq0.l0 k x0 (x5 ++ [(⟨(qf x0 (rd x8 x10)).f0,(qf x0 (rd x8 x10)).f1,(qf x0 (rd x8 x10)).f2⟩:S38)]) x8 x9 (wrap64 (x10+1))) else (none)) else (none)) else (none)) else (none)) else (none)) else (some x5)
def zq0.f (k:Nat) (l0:List (S38)) (l1:List Int):Option ((List (S38))):=zq0.l0 k l0 ([]:List (S38)) l1 (l1.length:Int) 0
theorem zq0.mono_l:∀ k,(∀ y0 y1 y2 y3 y4,LeO (zq0.l0 k y0 y1 y2 y3 y4) (zq0.l0 (k+1) y0 y1 y2 y3 y4))
 | 0=>fun _ _ _ _ _ r h=>by simp [zq0.l0] at h
 | k+1=>by
  have ih0:=zq0.mono_l k
  intro y0 y1 y2 y3 y4
  unfold zq0.l0
  repeat' first
  | (with_reducible first|exact ih0 _ _ _ _ _|exact LeO.refl _|exact LeO.none _|refine LeO.ite ?_ ?_|refine LeO.bind ?_ (fun _=>?_))
  | exact ih0 _ _ _ _ _
  | exact LeO.none _
  | refine LeO.ite ?_ ?_
  | refine LeO.bind ?_ (fun _=>?_)
theorem zq0.mono:∀ a0 a1 k,LeO (zq0.f k a0 a1) (zq0.f (k+1) a0 a1):=by
 intro a0 a1 k
 have ih0:=zq0.mono_l k
 unfold zq0.f
 repeat' first
   | (with_reducible first|exact ih0 _ _ _ _ _|exact LeO.refl _|exact LeO.none _|refine LeO.ite ?_ ?_|refine LeO.bind ?_ (fun _=>?_))
   | exact ih0 _ _ _ _ _
   | exact LeO.none _
   | refine LeO.ite ?_ ?_
   | refine LeO.bind ?_ (fun _=>?_)
set_option maxHeartbeats 8000000 in
set_option maxRecDepth 100000 in
theorem zq0.calls (k:Nat) (A0:Option Addr) (c0:Nat) (l0:List (S38)) (A1:Option Addr) (c1:Nat) (l1:List Int) (r:List (S38)) (w:World) (hr0:Kd.C k38 w A0 l0.length l0) (hc0:l0.length≤c0) (hr1:Kd.C (Kd.int .i64) w A1 l1.length l1) (hc1:l1.length≤c1) (h:zq0.f k l0 l1=some r) :
  Calls Tryd.prog 98 #[.slice A0 l0.length c0,.slice A1 l1.length c1] w fun e w' => ∃ v0_:Value,e = .returned (v0_)∧Kd.R k38 38 w' w.heap.size (fun _=>True) v0_ r∧Below w.heap.size w w':=by
 have hu38:=Tryd.underlying38
 have HR0:=zq.mk hr0
 have HC0:=zq.mk hc0
 clear hr0 hc0
 have HR1:=zq.mk hr1
 have HC1:=zq.mk hc1
 clear hr1 hc1
 have HB:=zq.mk (Below.refl w.heap.size w)
 have H:(zq0.l0 k l0 ([]:List (S38)) l1 (l1.length:Int) 0)=some r:=h
 clear h
 have H':=zq.mk H
 clear H
 go_enter Tryd.func98,Tryd.ntmps98
 go_wp2
 go_loopg [5,10] k (fun kq v5 v10 w' => ∃ (x5_1:List (S38)) (x10_1:Int),v10 = .int .i64 x10_1∧zq (zq0.l0 kq l0 x5_1 l1 (l1.length:Int) x10_1=some r)∧zq (kq≤k)∧zq (Kd.R k38 38 w' w.heap.size (fun _=>True) v5 x5_1)∧zq (Below w.heap.size w w'))
 case atStart=>exact⟨(([]:List (S38))),(0),vr,H',⟨Nat.le_refl _⟩,⟨by first|exact Kd.zxf _ _ _ _ _|exact Kd.zx4 _ _ _ _ _|exact Kd.zxl _ _ _ _ _|exact Kd.zx3 _ _ _ _ _|exact Kd.zx2 _ _ _ _ _⟩,⟨bw⟩⟩
 case round=>
  clear H'
  (try clear c1)
  (try clear HO_5)
  obtain ⟨x5_1,x10_1,rfl,HA,HK1,HO_5,HB⟩:=hrel
  cases gk with
  | zero=>exact absurd HA.out (by simp [zq0.l0])
  | succ k1=>
   have H:=HA.out
   clear HA
   simp only [zq0.l0] at H
   by_cases c3:x10_1<(l1.length:Int)
   ·rw [if_pos c3] at H
    have c3b0:=decide_eq_true c3
    clear c3
    by_cases c4:0≤x10_1
    ·rw [if_pos c4] at H
     have c4b0:=decide_eq_true c4
     clear c4
     by_cases c5:x10_1<(l1.length:Int)
     ·rw [if_pos c5] at H
      have c5b0:=decide_eq_true c5
      clear c5
      by_cases c6:0≤(rd l1 x10_1)
      ·rw [if_pos c6] at H
       have c6b0:=decide_eq_true c6
       clear c6
       by_cases c7:(rd l1 x10_1)<(l0.length:Int)
       ·rw [if_pos c7] at H
        have c7b0:=decide_eq_true c7
        clear c7
        by_cases c8:x5_1.length<4398046511104
        ·rw [if_pos c8] at H
         have LMc8:=zq.mk c8
         clear c8
         obtain ⟨y165,hy165⟩:∃ y_:List (S38),y_=(x5_1 ++ [(⟨(qf l0 (rd l1 x10_1)).f0,(qf l0 (rd l1 x10_1)).f1,(qf l0 (rd l1 x10_1)).f2⟩:S38)]):=⟨_,rfl⟩
         replace H:(zq0.l0 k1 l0 y165 l1 (l1.length:Int) (wrap64 (x10_1+1)))=some r:=by first|(rw [hy165];with_reducible exact H)|(have H2_:=(Option.bind_some _ _).symm.trans H;rw [hy165];with_reducible exact H2_)|(have H2_:=(Option.bind_some _ _).symm.trans H;with_reducible exact H2_)|with_reducible exact H|(rw [hy165];exact H)|exact H
         have Ny165:=zq.mk hy165
         clear hy165
         have H':=zq.mk H
         clear H
         have p163:0≤(x10_1:Int):=dt
         have q163:x10_1<(l1.length:Int):=dt
         obtain ⟨ad163,e163,hx163_0⟩:=Kd.zjb HR1.out x10_1 p163 q163
         cases e163
         replace hx163_0:=(HB.out.cell (World.block_lt_of_cell? w _ hx163_0)).trans hx163_0
         replace p163:=eq_true p163
         replace q163:=eq_true q163
         have p164:0≤((rd l1 x10_1):Int):=dt
         have q164:(rd l1 x10_1)<(l0.length:Int):=dt
         obtain ⟨ad164,e164,hx164_0,hx164_1,hx164_2⟩:=zxq HR0.out (rd l1 x10_1) p164 q164
         cases e164
         replace hx164_0:=(HB.out.cell (World.block_lt_of_cell? w _ hx164_0)).trans hx164_0
         replace hx164_1:=(HB.out.cell (World.block_lt_of_cell? w _ hx164_1)).trans hx164_1
         replace hx164_2:=(HB.out.cell (World.block_lt_of_cell? w _ hx164_2)).trans hx164_2
         replace p164:=eq_true p164
         replace q164:=eq_true q164
         go_wp2_with (first|((with_reducible refine zj7 (b:=.append) (xs:=#[.tmp 14,.tmp 19]) rfl ?_);at_builtin;refine Kd.zjj k38 (w0:=w) w.heap.size rfl (.tmp 14) (.tmp 19) 23 38 (.agg #[(.int .i64 0),(.int .i64 0),(.string ⟨#[]⟩)]) 32 rfl Tryd.underlying23 info38 rfl (by decide) (by omega) u5 x5_1 (⟨(qf l0 (rd l1 x10_1)).f0,(qf l0 (rd l1 x10_1)).f1,(qf l0 (rd l1 x10_1)).f2⟩:S38) [.int .i64 ((qf l0 (rd l1 x10_1)).f0),.int .i64 ((qf l0 (rd l1 x10_1)).f1),.string ((qf l0 (rd l1 x10_1)).f2)] (fun _=>True) (fun _=>False) rfl rfl ?aP (fun _ hk=>hk.elim) ?aF ?aO ?aB ?aS ?aL ?_;(case aP=>exact zkn _ _ _ (⟨(qf l0 (rd l1 x10_1)).f0,(qf l0 (rd l1 x10_1)).f1,(qf l0 (rd l1 x10_1)).f2⟩:S38));(case aB=>exact bw);(case aF=>exact(fun _ _=>trivial));(case aO=>exact(Kd.ru HO_5.out));(case aS=>exact(zw bw));(case aL=>have:=LMc8.out;omega);intro v166 w9 ho hb hg hat;rw [← Ny165.out] at ho;replace HB:=zq.mk (hb);have HO167:=zq.mk (ho);clear HO_5 ho hb hg hat))
         go_roundg k1
         case measure=>have:=HK1.out;omega
         case rel=>exact⟨(y165),(wrap64 (x10_1+1)),vr,H',⟨by have:=HK1.out;omega⟩,⟨by(with_reducible repeat(first|apply Kd.zq5|apply Kd.zq7|apply Kd.zjf));exact HO167.out⟩,⟨bw⟩⟩
        rw [if_neg c8] at H
        exact absurd H (by simp)
       rw [if_neg c7] at H
       exact absurd H (by simp)
      rw [if_neg c6] at H
      exact absurd H (by simp)
     rw [if_neg c5] at H
     exact absurd H (by simp)
    rw [if_neg c4] at H
    exact absurd H (by simp)
   rw [if_neg c3] at H
   have c3b0:=decide_eq_false c3
   clear c3
   obtain rfl:=Option.some.inj H
   go_wp2
   go_ret
   exact⟨_,by first|rfl|(simp [zg,zy] <;> rfl)|(simp [*,zg,zy] <;> rfl),by(with_reducible repeat(first|apply Kd.zq5|apply Kd.zq7|apply Kd.zjf));exact HO_5.out,bw⟩

/-! ### zqx: function 58 -/
def zqx.l0:Nat→List (S38)→List (S38)→List (List Int)→Int→Int→Option (List Int × List Int)
 | 0,_,_,_,_,_=>none
 | k+1,x2,x9,x19,x20,x21=>if x21<x20 then(if 0≤x21 then(if x21<(x19.length:Int) then((zq0.f k x2 (rd_L4 x19 x21)).bind fun t179=>(if x9.length+t179.length<4398046511104 then(zqx.l0 k x2 (x9 ++ t179) x19 x20 (wrap64 (x21+1))) else (none))) else (none)) else (none)) else ((zq1.f k x9).bind fun bt185=>(some (bt185.1,([]:List Int))))
def zqx.f (k:Nat) (a0:Int) (a1:Int) (l2:List (S38)) (l3:List (List Int)):Option (List Int × List Int):=(zxg.f a0).bind fun bt169=>((zxg.f a1).bind fun bt172=>(zqx.l0 k l2 (([(⟨bt169.1,bt169.2.1,bt169.2.2⟩:S38),(⟨bt172.1,bt172.2.1,bt172.2.2⟩:S38)]:List (S38))) l3 (l3.length:Int) 0))
theorem zqx.mono_l:∀ k,(∀ y0 y1 y2 y3 y4,LeO (zqx.l0 k y0 y1 y2 y3 y4) (zqx.l0 (k+1) y0 y1 y2 y3 y4))
 | 0=>fun _ _ _ _ _ r h=>by simp [zqx.l0] at h
 | k+1=>by
  have ih0:=zqx.mono_l k
  intro y0 y1 y2 y3 y4
  unfold zqx.l0
  repeat' first
  | (with_reducible first|exact ih0 _ _ _ _ _|exact zq1.mono _ _|exact zq0.mono _ _ _|exact LeO.refl _|exact LeO.none _|refine LeO.ite ?_ ?_|refine LeO.bind ?_ (fun _=>?_))
  | exact ih0 _ _ _ _ _
  | exact zq1.mono _ _
  | exact zq0.mono _ _ _
  | exact LeO.none _
  | refine LeO.ite ?_ ?_
  | refine LeO.bind ?_ (fun _=>?_)
theorem zqx.mono:∀ a0 a1 a2 a3 k,LeO (zqx.f k a0 a1 a2 a3) (zqx.f (k+1) a0 a1 a2 a3):=by
 intro a0 a1 a2 a3 k
 have ih0:=zqx.mono_l k
 unfold zqx.f
 repeat' first
   | (with_reducible first|exact ih0 _ _ _ _ _|exact zq1.mono _ _|exact zq0.mono _ _ _|exact LeO.refl _|exact LeO.none _|refine LeO.ite ?_ ?_|refine LeO.bind ?_ (fun _=>?_))
   | exact ih0 _ _ _ _ _
   | exact zq1.mono _ _
   | exact zq0.mono _ _ _
   | exact LeO.none _
   | refine LeO.ite ?_ ?_
   | refine LeO.bind ?_ (fun _=>?_)
set_option maxHeartbeats 8000000 in
set_option maxRecDepth 100000 in
theorem zqx.calls (k:Nat) (a0:Int) (a1:Int) (A2:Option Addr) (c2:Nat) (l2:List (S38)) (A3:Option Addr) (c3:Nat) (l3:List (List Int)) (r1:List Int) (r2:List Int) (w:World) (hr2:Kd.C k38 w A2 l2.length l2) (hc2:l2.length≤c2) (hr3:Kd.C (Kd.slice 3 (Kd.int .i64)) w A3 l3.length l3) (hc3:l3.length≤c3) (hL:LD w) (h:zqx.f k a0 a1 l2 l3=some (r1,r2)) :
  Calls Tryd.prog 58 #[.int .i64 a0,.int .i64 a1,.slice A2 l2.length c2,.slice A3 l3.length c3] w fun e w' => ∃ v0_ v1_:Value,e = .returned (.agg #[v0_,v1_])∧Kd.R (Kd.int .u8) 5 w' w.heap.size (fun k_=>some k_≠(v1_:Value).ownBlock) v0_ r1∧Kd.R (Kd.int .u8) 5 w' w.heap.size (fun k_=>some k_≠(v0_:Value).ownBlock) v1_ r2∧Below w.heap.size w w':=by
 have hu32:=Tryd.underlying32
 have HLD:=zq.mk hL
 clear hL
 have HR2:=zq.mk hr2
 have HC2:=zq.mk hc2
 clear hr2 hc2
 have HR3:=zq.mk hr3
 have HC3:=zq.mk hc3
 clear hr3 hc3
 have HB:=zq.mk (Below.refl w.heap.size w)
 have H:((zxg.f a0).bind fun bt169=>((zxg.f a1).bind fun bt172=>(zqx.l0 k l2 (([(⟨bt169.1,bt169.2.1,bt169.2.2⟩:S38),(⟨bt172.1,bt172.2.1,bt172.2.2⟩:S38)]:List (S38))) l3 (l3.length:Int) 0)))=some (r1,r2):=h
 clear h
 replace H:=Option.bind_eq_some_iff.mp H
 obtain ⟨⟨t169,t170,t171⟩,A50,H⟩:=H
 replace H:((zxg.f a1).bind fun bt172=>(zqx.l0 k l2 (([(⟨t169,t170,t171⟩:S38),(⟨bt172.1,bt172.2.1,bt172.2.2⟩:S38)]:List (S38))) l3 (l3.length:Int) 0))=some (r1,r2):=H
 have A5:=zq.mk A50
 clear A50
 replace H:=Option.bind_eq_some_iff.mp H
 obtain ⟨⟨t172,t173,t174⟩,A60,H⟩:=H
 replace H:(zqx.l0 k l2 (([(⟨t169,t170,t171⟩:S38),(⟨t172,t173,t174⟩:S38)]:List (S38))) l3 (l3.length:Int) 0)=some (r1,r2):=H
 have A6:=zq.mk A60
 clear A60
 obtain ⟨y175,hy175⟩:∃ y_:List (S38),y_=(([(⟨t169,t170,t171⟩:S38),(⟨t172,t173,t174⟩:S38)]:List (S38))):=⟨_,rfl⟩
 replace H:(zqx.l0 k l2 y175 l3 (l3.length:Int) 0)=some (r1,r2):=by first|(rw [hy175];with_reducible exact H)|(have H2_:=(Option.bind_some _ _).symm.trans H;rw [hy175];with_reducible exact H2_)|(have H2_:=(Option.bind_some _ _).symm.trans H;with_reducible exact H2_)|with_reducible exact H|(rw [hy175];exact H)|exact H
 have Ny175:=zq.mk hy175
 clear hy175
 have H':=zq.mk H
 clear H
 go_enter Tryd.func58,Tryd.ntmps58
 go_wp2_with (first|((with_reducible refine qr (N:=8) rfl ?_);refine qm ?hg (N:=8) ?hd (cs:=#[.slice none 0 0,.slice none 0 0]) (t:=32) ?hr ?_;(case hd=>rfl);(case hg=>rfl);(case hr=>first|(go_simp;done)|(go_simp;rfl));intro gb168 hg w7 hbox hb;have BK168:=zq.mk (hbox);have GW168:=zq.mk ((by rw [hg];exact(zw bw):w.heap.size≤gb168));have GE168:=zq.mk ((by rw [hg];exact(zw bw):w.heap.size≤gb168));replace HB:=zq.mk (zn bw hb);clear hb hbox hg)|((with_reducible refine qh (f:=97) rfl ?_);refine zqn (some 15) rfl rfl Tryd.func97 (by kernel_rfl) rfl #[.int .i64 a0] rfl gs ?_;(with_reducible refine(zxg.calls a0 t169 t170 t171 _ A5.out).mono ?_);rintro e w8 ⟨rfl,hb⟩;refine⟨_,rfl,?_⟩;replace BK168:=zq.mk (ze (g:=gb168) (o:=.cells #[.slice none 0 0,.slice none 0 0] 32 (0,0)) (up BK168.out) hb);replace HB:=zq.mk (zn bw hb);(try clear hb);(try clear hb2);(try clear hk);(try clear hi))|((with_reducible refine qh (f:=97) rfl ?_);refine zqn (some 17) rfl rfl Tryd.func97 (by kernel_rfl) rfl #[.int .i64 a1] rfl gs ?_;(with_reducible refine(zxg.calls a1 t172 t173 t174 _ A6.out).mono ?_);rintro e w9 ⟨rfl,hb⟩;refine⟨_,rfl,?_⟩;replace BK168:=zq.mk (ze (g:=gb168) (o:=.cells #[.slice none 0 0,.slice none 0 0] 32 (0,0)) (up BK168.out) hb);replace HB:=zq.mk (zn bw hb);(try clear hb);(try clear hb2);(try clear hk);(try clear hi))|((with_reducible refine qr (N:=18) rfl ?_);refine Kd.R_lit k38 _ 38 ?hg (N:=18) ?hd (xs:=([(⟨t169,t170,t171⟩:S38),(⟨t172,t173,t174⟩:S38)]:List (S38))) (inner := [.int .i64 t169,.int .i64 t170,.string t171,.int .i64 t172,.int .i64 t173,.string t174]) (ok:=fun _=>True) (okp:=fun _=>True) ?hr ?hp (fun _ hk=>hk) trivial (Below.refl _ _) (Nat.le_refl _) (by simp) ?_;(case hd=>rfl);(case hg=>rfl);(case hr=>first|(go_simp;done)|(go_simp;rfl));(case hp=>exact(Reps.c3 (show Kd.M k38 _ _ _ (⟨t169,t170,t171⟩:S38) [.int .i64 t169,.int .i64 t170,.string t171] from (zkn _ _ _ (⟨t169,t170,t171⟩:S38) )) (Reps.c3 (show Kd.M k38 _ _ _ (⟨t172,t173,t174⟩:S38) [.int .i64 t172,.int .i64 t173,.string t174] from (zkn _ _ _ (⟨t172,t173,t174⟩:S38) )) (Reps.none _ _))));intro v176 w10 ho11 hb hg_ hnew_;clear hg_ hnew_;(first|rw [← Ny175.out] at ho11|(simp only [Int.reduceToNat] at ho11;rw [← Ny175.out] at ho11));have HO177:=zq.mk (Kd.zjs ho11 (zw bw));replace BK168:=zq.mk (ze (g:=gb168) (o:=.cells #[.slice none 0 0,.slice none 0 0] 32 (0,0)) (up BK168.out) hb);replace HB:=zq.mk (zn bw hb);clear hb ho11))
 go_loopg [9,21] k (fun kq v9 v21 w' => ∃ (x9_1:List (S38)) (x21_1:Int),v21 = .int .i64 x21_1∧zq (zqx.l0 kq l2 x9_1 l3 (l3.length:Int) x21_1=some (r1,r2))∧zq (kq≤k)∧zq (Kd.R k38 38 w' w.heap.size (fun _=>True) v9 x9_1)∧zq (w'.heap[gb168]? = some (.cells #[(.slice none 0 0),(.slice none 0 0)] 32 (0,0)))∧zq (Below w.heap.size w w'))
 case atStart=>exact⟨(y175),(0),vr,H',⟨Nat.le_refl _⟩,⟨by(with_reducible repeat(first|apply Kd.zq5|apply Kd.zq7|apply Kd.zjf));exact HO177.out⟩,⟨by(with_reducible repeat(first|refine zz ?_ _|refine zk ?_|refine zj ?_ _));exact BK168.out⟩,⟨bw⟩⟩
 case round=>
  clear H'
  (try clear c2);(try clear c3)
  (try clear HO_9);(try clear BK168)
  obtain ⟨x9_1,x21_1,rfl,HA,HK1,HO_9,BK168,HB⟩:=hrel
  cases gk with
  | zero=>exact absurd HA.out (by simp [zqx.l0])
  | succ k1=>
   have H:=HA.out
   clear HA
   simp only [zqx.l0] at H
   by_cases c12:x21_1<(l3.length:Int)
   ·rw [if_pos c12] at H
    have c12b0:=decide_eq_true c12
    clear c12
    by_cases c13:0≤x21_1
    ·rw [if_pos c13] at H
     have c13b0:=decide_eq_true c13
     clear c13
     by_cases c14:x21_1<(l3.length:Int)
     ·rw [if_pos c14] at H
      have c14b0:=decide_eq_true c14
      clear c14
      replace H:=Option.bind_eq_some_iff.mp H
      obtain ⟨t179,A150,H⟩:=H
      replace H:(if x9_1.length+t179.length<4398046511104 then(zqx.l0 k1 l2 (x9_1 ++ t179) l3 (l3.length:Int) (wrap64 (x21_1+1))) else (none))=some (r1,r2):=H
      have A15:=zq.mk A150
      clear A150
      by_cases c16:x9_1.length+t179.length<4398046511104
      ·rw [if_pos c16] at H
       have LMc16:=zq.mk c16
       clear c16
       obtain ⟨y182,hy182⟩:∃ y_:List (S38),y_=(x9_1 ++ t179):=⟨_,rfl⟩
       replace H:(zqx.l0 k1 l2 y182 l3 (l3.length:Int) (wrap64 (x21_1+1)))=some (r1,r2):=by first|(rw [hy182];with_reducible exact H)|(have H2_:=(Option.bind_some _ _).symm.trans H;rw [hy182];with_reducible exact H2_)|(have H2_:=(Option.bind_some _ _).symm.trans H;with_reducible exact H2_)|with_reducible exact H|(rw [hy182];exact H)|exact H
       have Ny182:=zq.mk hy182
       clear hy182
       have H':=zq.mk H
       clear H
       have p178:0≤(x21_1:Int):=dt
       have q178:x21_1<(l3.length:Int):=dt
       obtain ⟨ad178,A178_0,c178_0,e178,hx178_0,hl178_0,hi178_0⟩:=at_L4 HR3.out x21_1 p178 q178
       cases e178
       replace hx178_0:=(HB.out.cell (World.block_lt_of_cell? w _ hx178_0)).trans hx178_0
       have HR178_0:=zq.mk hi178_0
       have HC178_0:=zq.mk hl178_0
       clear hi178_0 hl178_0
       replace p178:=eq_true p178
       replace q178:=eq_true q178
       go_wp2_with (first|((with_reducible refine qh (f:=98) rfl ?_);refine zqn (some 28) rfl rfl Tryd.func98 (by kernel_rfl) rfl #[.slice A2 l2.length c2,.slice A178_0 (rd_L4 l3 x21_1).length c178_0] rfl gs ?_;(with_reducible refine(zq0.calls k1 _ _ l2 _ _ (rd_L4 l3 x21_1) t179 _ ?side1 ?side2 ?side3 ?side4 A15.out).mono ?_);(case side1=>exact Kd.cu (Kd.qu HR2.out HB.out));(case side2=>exact HC2.out);(case side3=>exact Kd.cu (Kd.qu HR178_0.out HB.out));(case side4=>exact HC178_0.out);rintro e w17 ⟨v180,rfl,ho0,hb⟩;refine⟨_,rfl,?_⟩;have HO181:=zq.mk (Kd.zjs (Kd.R_new' ho0 (Kd.R_lt (Kd.ru HO_9.out))) (zw bw));replace HO_9:=zq.mk (Kd.zk0 (Kd.ru HO_9.out) (Kd.zxh ho0) hb);replace BK168:=zq.mk (ze (g:=gb168) (o:=.cells #[.slice none 0 0,.slice none 0 0] 32 (0,0)) (up BK168.out) hb);replace HB:=zq.mk (zn bw hb);(try clear hb);(try clear hb2);(try clear hk);(try clear hi);(try clear ho0);obtain ⟨Ao19,co19,eo19⟩:=Kd.zje HO181.out;subst eo19)|((with_reducible refine zj7 (b:=.append) (xs:=#[.tmp 25,.tmp 28]) rfl ?_);at_builtin;refine Kd.zka k38 (w0:=w) w.heap.size rfl (.tmp 25) (.tmp 28) 23 38 (.agg #[(.int .i64 0),(.int .i64 0),(.string ⟨#[]⟩)]) 32 rfl Tryd.underlying23 info38 rfl (by decide) (by omega) u9 x9_1 t179 _ _ _ (fun k_=>some k_≠(.slice Ao19 t179.length co19:Value).ownBlock) (fun _=>False) rfl rfl ?aO ?aR (fun _ _ h=>h) (fun _ h=>h.elim) ?aF ?aB ?aS ?aL ?_;(case aR=>exact Kd.cu (Kd.zqk HO181.out).2.2);(case aB=>exact bw);(case aF=>exact(fun k_ hk=>Kd.fresh' (Kd.R_lt (Kd.ru HO181.out)) k_ hk));(case aO=>exact(Kd.ru (Kd.zqy HO_9.out (fun _ hk=>hk.2))));(case aS=>exact(zw bw));(case aL=>have:=LMc16.out;omega);intro v183 w18 ho hb hg hat;rw [← Ny182.out] at ho;replace BK168:=zq.mk (zxk (g:=gb168) (o:=.cells #[.slice none 0 0,.slice none 0 0] 32 (0,0)) (up BK168.out) hg (Kd.R_ne HO_9.out BK168.out (by decide)));replace HO181:=zq.mk (Kd.R_after (ok:=(fun _=>True)) (Kd.ru HO181.out) hg hat);replace HB:=zq.mk (hb);have HO184:=zq.mk (ho);clear HO_9 ho hb hg hat))
       go_roundg k1
       case measure=>have:=HK1.out;omega
       case rel=>exact⟨(y182),(wrap64 (x21_1+1)),vr,H',⟨by have:=HK1.out;omega⟩,⟨by(with_reducible repeat(first|apply Kd.zq5|apply Kd.zq7|apply Kd.zjf));exact Kd.zqy HO184.out (fun _ hk=>trivial)⟩,⟨by(with_reducible repeat(first|refine zz ?_ _|refine zk ?_|refine zj ?_ _));exact BK168.out⟩,⟨bw⟩⟩
      rw [if_neg c16] at H
      exact absurd H (by simp)
     rw [if_neg c14] at H
     exact absurd H (by simp)
    rw [if_neg c13] at H
    exact absurd H (by simp)
   rw [if_neg c12] at H
   have c12b0:=decide_eq_false c12
   clear c12
   replace H:=Option.bind_eq_some_iff.mp H
   obtain ⟨⟨t185,t186⟩,A200,H⟩:=H
   replace H:(some (t185,([]:List Int)))=some (r1,r2):=H
   have A20:=zq.mk A200
   clear A200
   simp only [Option.some.injEq,Prod.mk.injEq] at H
   obtain ⟨rfl,rfl⟩:=H
   obtain ⟨Ao21,co21,eo21⟩:=Kd.zje HO_9.out
   subst eo21
   go_wp2_with (first|((with_reducible refine qh (f:=59) rfl ?_);refine zqn (some 33) rfl rfl Tryd.func59 (by kernel_rfl) rfl #[.slice Ao21 x9_1.length co21] rfl gs ?_;(with_reducible refine(zq1.calls k1 _ _ x9_1 t185 t186 _ ?side1 ?side2 ?side3 A20.out).mono ?_);(case side1=>exact Kd.cu (Kd.zqk HO_9.out).2.2);(case side2=>exact(Kd.zqk HO_9.out).2.1);(case side3=>exact LD.below HLD.out (by first|(with_reducible exact Below.refl _ _)|((repeat(first|(with_reducible exact Below.refl _ _)|(with_reducible apply zl)|(with_reducible apply zr)|(with_reducible apply qx)));done)|exact bw));rintro e w22 ⟨v187,rfl,ho0,hb⟩;refine⟨_,rfl,?_⟩;replace HO_9:=zq.mk (Kd.zq4 (Kd.ru HO_9.out) hb);have HO188:=zq.mk (Kd.zjs ho0 (zw bw));replace BK168:=zq.mk (ze (g:=gb168) (o:=.cells #[.slice none 0 0,.slice none 0 0] 32 (0,0)) (up BK168.out) hb);replace HB:=zq.mk (zn bw hb);(try clear hb);(try clear hb2);(try clear hk);(try clear hi);(try clear ho0);obtain ⟨Ao23,co23,eo23⟩:=Kd.zje HO188.out;subst eo23;obtain ⟨hcz24_0,hcz24_1,hfz24_0,hfz24_1⟩:=zji BK168.out))
   refine bodyPost_ret (results_cell_row rfl _ _ gb168 32 #[.slice Ao23 t185.length co23,.slice none 0 0] (0,0) _ rfl (by(with_reducible repeat(first|refine zz ?_ _|refine zk ?_|refine zj ?_ _));refine qw (cs:=#[.slice Ao23 t185.length co23,.slice none 0 0]) ?_ 1 _ rfl;(with_reducible repeat(first|refine zz ?_ _|refine zk ?_|refine zj ?_ _));refine qw (cs:=#[.slice none 0 0,.slice none 0 0]) ?_ 0 _ rfl;(with_reducible repeat(first|refine zz ?_ _|refine zk ?_|refine zj ?_ _));exact BK168.out) Tryd.underlying32 rfl (by kernel_rfl)) rfl ?_
   exact⟨_,_,by first|rfl|(simp [zg,zy] <;> rfl)|(simp [*,zg,zy] <;> rfl),by(with_reducible repeat(first|apply Kd.zq5|apply Kd.zq7|apply Kd.zjf));exact Kd.zqy (Kd.zxt (p:=⟨gb168,1,none⟩) (Kd.zxt (p:=⟨gb168,0,none⟩) (Kd.zj4 HO188.out BK168.out (by decide)) (fun _ hk=>hk.2) (.slice Ao23 t185.length co23)) (fun _ hk=>hk.2) (.slice none 0 0)) (fun _ hk=>(by simp [Value.ownBlock])),by first|exact Kd.zxf _ _ _ _ _|exact Kd.zx4 _ _ _ _ _|exact Kd.zxl _ _ _ _ _|exact Kd.zx3 _ _ _ _ _|exact Kd.zx2 _ _ _ _ _,bw⟩

def zm (w0 W:World) (g:Nat) (f0:List Int) (f1:Int):Prop := ∃ A0 c0,W.heap[g]? = some (.cells #[.slice A0 f0.length c0,.int .i64 f1] 130 (0,0))∧w0.heap.size≤g∧Kd.C (Kd.int .u8) w0 A0 f0.length f0
theorem zm.grown {w0 W:World} {g:Nat} {f0:List Int} {f1:Int} {W1:World} {row:Option Nat} (h:zm w0 W g f0 f1) (hw:W.grownBy W1 row) (hne:some g≠row):zm w0 W1 g f0 f1:=by
 obtain ⟨A0,c0,hb,hg,hr0⟩:=h
 exact⟨A0,c0,zxk hb hw hne,hg,hr0⟩
theorem zm.own_neN {w0 W:World} {g:Nat} {f0:List Int} {f1:Int} {α:Type} {d:Kd α} {e:Nat} {base:Nat} {ok:Nat→Prop} {v:Value} {xs:List α} (h:zm w0 W g f0 f1) (ho:Kd.N d e W base ok v xs) (ht:e≠130):some g≠v.ownBlock:=by
 obtain ⟨A0,c0,hb,hg,hr0⟩:=h
 exact Kd.N_ne ho hb ht
theorem zm.fresh {w0 W:World} {g:Nat} {f0:List Int} {f1:Int} (h:zm w0 W g f0 f1):∀ k,W.heap.size≤k→k≠g:=by
 obtain ⟨A0,c0,hb,hg,hr0⟩:=h
 exact Kd.zkg hb
theorem zm.kept {w0 W:World} {g:Nat} {f0:List Int} {f1:Int} {W1:World} {S:Nat→Prop} (h:zm w0 W g f0 f1) (hk:Kept W W1 S) (hne:¬ S g):zm w0 W1 g f0 f1:=by
 obtain ⟨A0,c0,hb,hg,hr0⟩:=h
 exact⟨A0,c0,blk_kept hb hk hne,hg,hr0⟩
theorem zm.below {w0 W:World} {g:Nat} {f0:List Int} {f1:Int} {W1:World} (h:zm w0 W g f0 f1) (hw:Below W.heap.size W W1):zm w0 W1 g f0 f1:=h.grown (zk4 hw none) (by simp)
theorem zm.alloc {w0 W:World} {g:Nat} {f0:List Int} {f1:Int} (h:zm w0 W g f0 f1) (o:Obj):zm w0 (W.alloc o) g f0 f1:=h.below (zl (Below.refl _ _) o)
theorem zm.drewN {w0 W:World} {g:Nat} {f0:List Int} {f1:Int} (h:zm w0 W g f0 f1) (m:Nat):zm w0 (W.drewN m) g f0 f1:=h
theorem zm.drew {w0 W:World} {g:Nat} {f0:List Int} {f1:Int} (h:zm w0 W g f0 f1):zm w0 W.drew g f0 f1:=h
theorem zm.at_ {w0 W:World} {g:Nat} {f0:List Int} {f1:Int} {w':World} {m:Nat} (hq:W.drewN m=w') (h:zm w0 W g f0 f1):zm w0 w' g f0 f1:=by subst hq;exact zm.drewN h m
theorem zm.apart {w0 W:World} {g:Nat} {f0:List Int} {f1:Int} {α:Type} {d:Kd α} {e:Nat} {base:Nat} {ok:Nat→Prop} {v:Value} {xs:List α} (h:zm w0 W g f0 f1) (ho:d.R e W base ok v xs) (ht:∀ q,q ∈ e :: d.E→q≠130):d.R e W base (fun k=>ok k∧k≠g) v xs:=by
 obtain ⟨A0,c0,hb,hg,hr0⟩:=h
 exact Kd.zj4 ho hb ht
theorem zm.own_ne {w0 W:World} {g:Nat} {f0:List Int} {f1:Int} {α:Type} {d:Kd α} {e:Nat} {base:Nat} {ok:Nat→Prop} {v:Value} {xs:List α} (h:zm w0 W g f0 f1) (ho:d.R e W base ok v xs) (ht:e≠130):some g≠v.ownBlock:=by
 obtain ⟨A0,c0,hb,hg,hr0⟩:=h
 exact Kd.R_ne ho hb ht
theorem zm.apartQ {w0 W:World} {g:Nat} {f0:List Int} {f1:Int} {α:Type} {d:Kd α} {e:Nat} {base:Nat} {ok:Nat→Prop} {v:Value} {xs:List α} (h:zm w0 W g f0 f1) (ho:d.Q e W base ok v xs) (ht:∀ q,q ∈ e :: d.E→q≠130):d.Q e W base (fun k=>ok k∧k≠g) v xs:=by
 obtain ⟨A0,c0,hb,hg,hr0⟩:=h
 exact Kd.Q_types ho hb ht
theorem zm.own_neQ {w0 W:World} {g:Nat} {f0:List Int} {f1:Int} {α:Type} {d:Kd α} {e:Nat} {base:Nat} {ok:Nat→Prop} {v:Value} {xs:List α} (h:zm w0 W g f0 f1) (ho:d.Q e W base ok v xs) (ht:e≠130):some g≠v.ownBlock:=by
 obtain ⟨A0,c0,hb,hg,hr0⟩:=h
 exact Kd.Q_ne ho hb ht
theorem zm.apartS {w0 W:World} {g:Nat} {f0:List Int} {f1:Int} {α:Type} {d:Kd α} {e:Nat} {base:Nat} {ok:Nat→Prop} {v:Value} {xs:List α} (h:zm w0 W g f0 f1) (ho:d.S e W base ok v xs) (ht:∀ q,q ∈ e :: d.E→q≠130):d.S e W base (fun k=>ok k∧k≠g) v xs:=by
 obtain ⟨A0,c0,hb,hg,hr0⟩:=h
 exact Kd.S_types ho hb ht
theorem zm.own_neS {w0 W:World} {g:Nat} {f0:List Int} {f1:Int} {α:Type} {d:Kd α} {e:Nat} {base:Nat} {ok:Nat→Prop} {v:Value} {xs:List α} (h:zm w0 W g f0 f1) (ho:d.S e W base ok v xs) (ht:e≠130):some g≠v.ownBlock:=by
 obtain ⟨A0,c0,hb,hg,hr0⟩:=h
 exact Kd.S_ne ho hb ht
theorem zm.lt {w0 W:World} {g:Nat} {f0:List Int} {f1:Int} (h:zm w0 W g f0 f1):g<W.heap.size:=by
 obtain ⟨A0,c0,hb,hg,hr0⟩:=h
 exact zq3 hb
theorem zm.ge {w0 W:World} {g:Nat} {f0:List Int} {f1:Int} (h:zm w0 W g f0 f1):w0.heap.size≤g:=by
 obtain ⟨A0,c0,hb,hg,hr0⟩:=h
 exact hg
theorem zm.ne_blk {w0 W:World} {g:Nat} {f0:List Int} {f1:Int} {a:Nat} {cs:Array Value} {t:TypeId} {fr:Nat × Nat} (h:zm w0 W g f0 f1) (hb2:W.heap[a]? = some (.cells cs t fr)) (ht:t≠130):g≠a:=by
 obtain ⟨A0,c0,hb,hg,hr0⟩:=h
 rintro rfl
 rw [hb] at hb2
 injection hb2 with hb2
 injection hb2 with _ ht2
 exact ht ht2.symm
theorem zm.far {w0 W:World} {g:Nat} {f0:List Int} {f1:Int} {p:Addr} (h:zm w0 W g f0 f1) (hne:g≠p.block) (u:Value):zm w0 (W.setCell p u) g f0 f1:=by
 obtain ⟨A0,c0,hb,hg,hr0⟩:=h
 exact⟨A0,c0,zqf hb hne u,hg,hr0⟩
theorem cellS130_0 {W:World} {g:Nat} {A0:Option Addr} {c0:Nat} {f0:List Int} {f1:Int} (h:W.heap[g]? = some (.cells #[.slice A0 f0.length c0,.int .i64 f1] 130 (0,0))):W.cell? ⟨g,0,none⟩=some (.slice A0 f0.length c0):=(zqb h 0).trans rfl
theorem cellS130_1 {W:World} {g:Nat} {A0:Option Addr} {c0:Nat} {f0:List Int} {f1:Int} (h:W.heap[g]? = some (.cells #[.slice A0 f0.length c0,.int .i64 f1] 130 (0,0))):W.cell? ⟨g,1,none⟩=some (.int .i64 f1):=(zqb h 1).trans rfl
theorem zm.zjc {w0 W:World} {g:Nat} {f0:List Int} {f1:Int} (h:zm w0 W g f0 f1) (x:Int):zm w0 (W.setCell ⟨g,1,none⟩ (.int .i64 x)) g f0 x:=by
 obtain ⟨A0,c0,hb,hg,hr0⟩:=h
 exact⟨A0,c0,by simpa using blk_set hb 1 (.int .i64 x),hg,hr0⟩
theorem zm.new (w0 W:World) (A0:Option Addr) (c0:Nat) (f0:List Int) (f1:Int) (hB:Below w0.heap.size w0 W) (hr0:Kd.C (Kd.int .u8) w0 A0 f0.length f0):zm w0 (W.alloc (.cells #[.slice A0 f0.length c0,.int .i64 f1] 130)) W.heap.size f0 f1:=⟨A0,c0,by simpa using heap_alloc_new W _,hB.size,hr0⟩

/-! ### zqj: function 125 -/
def zqj.f (s0_0:List Int) (s0_1:Int):Option (Int × Bool × Int):=if s0_1=(s0_0.length:Int) then(some (0,false,s0_1)) else (if 0≤(wrap64 ((wrap64 (s0_1+1)) - 1)) then(if(wrap64 ((wrap64 (s0_1+1)) - 1))<(s0_0.length:Int) then(some (rd s0_0 (wrap64 ((wrap64 (s0_1+1)) - 1)),true,wrap64 (s0_1+1))) else (none)) else (none))
set_option maxHeartbeats 8000000 in
set_option maxRecDepth 100000 in
theorem zqj.calls (g:Nat) (s0_0:List Int) (s0_1:Int) (r1:Int) (r2:Bool) (r3:Int) (w0 w:World) (hI:zm w0 w g s0_0 s0_1) (hB:Below w0.heap.size w0 w) (h:zqj.f s0_0 s0_1=some (r1,r2,r3)) :
  Calls Tryd.prog 125 #[.pointer (some ⟨g,0,none⟩)] w fun e w'=>e = .returned (.tuple #[.int .u8 r1,.bool r2])∧zm w0 w' g s0_0 r3∧Below w0.heap.size w0 w'∧qn w w' g none:=by
 have HI0:=zq.mk hI
 have HK:=zq.mk (qn.refl w g none)
 have HL:=zq.mk hB.size
 clear hI
 have HW0:=zq.mk hB.size
 have HB:=zq.mk hB
 clear hB
 have H:(if s0_1=(s0_0.length:Int) then(some (0,false,s0_1)) else (if 0≤(wrap64 ((wrap64 (s0_1+1)) - 1)) then(if(wrap64 ((wrap64 (s0_1+1)) - 1))<(s0_0.length:Int) then(some (rd s0_0 (wrap64 ((wrap64 (s0_1+1)) - 1)),true,wrap64 (s0_1+1))) else (none)) else (none)))=some (r1,r2,r3):=h
 clear h
 by_cases c2:s0_1=(s0_0.length:Int)
 ·rw [if_pos c2] at H
  have c2b0:(s0_1 == (s0_0.length:Int))=true:=beq_iff_eq.mpr c2
  have c2b1:(s0_1 != (s0_0.length:Int))=false:=bne_eq_false_iff_eq.mpr c2
  clear c2
  simp only [Option.some.injEq,Prod.mk.injEq] at H
  obtain ⟨rfl,rfl,rfl⟩:=H
  obtain ⟨ASz3_0,cSz3_0,HGz3,hgz3,HSz3_0⟩:=HI0.out
  have hcz3_0:=cellS130_0 HGz3
  have hcz3_1:=cellS130_1 HGz3
  have hfz3_1:=zj6 HGz3 1
  clear HGz3 hgz3
  go_enter Tryd.func125,Tryd.ntmps125
  go_wp2
  repeat(go_quiet (fail);try go_wp2)
  go_ret2
  exact⟨by first|rfl|(simp [zg,zy] <;> rfl)|(simp [*,zg,zy] <;> rfl),by repeat(first|(with_reducible first|exact HI0.out|apply zm.alloc|apply zm.drewN|apply zm.drew|apply zm.zjc)|exact HI0.out),by repeat(first|(with_reducible first|exact HB.out|apply zl|apply zr|apply qx|refine qb ?_ (zm.ge HI0.out))|exact HB.out),by repeat(first|(with_reducible first|exact HK.out|apply qn.set_|apply qe|apply zqe|apply qi)|exact HK.out)⟩
 rw [if_neg c2] at H
 have c2b0:(s0_1 == (s0_0.length:Int))=false:=beq_eq_false_iff_ne.mpr c2
 have c2b1:(s0_1 != (s0_0.length:Int))=true:=bne_iff_ne.mpr c2
 obtain ⟨ji4,hji4⟩:∃ j_:Int,(wrap64 ((wrap64 (s0_1+1)) - 1))=j_:=⟨_,rfl⟩
 replace H:(if 0≤(ji4) then(if(ji4)<(s0_0.length:Int) then(some (rd s0_0 (ji4),true,wrap64 (s0_1+1))) else (none)) else (none))=some (r1,r2,r3):=by first|(rw [hji4] at H;exact H)|(simp only [hji4] at H ⊢;exact H)
 have hji4w:(IntKind.i64.wrap ((wrap64 (s0_1+1)) - 1))=ji4:=(zqp _).trans hji4
 by_cases c5:0≤(ji4)
 ·rw [if_pos c5] at H
  have c5b0:=decide_eq_true c5
  clear c5
  by_cases c6:(ji4)<(s0_0.length:Int)
  ·rw [if_pos c6] at H
   have c6b0:=decide_eq_true c6
   clear c6
   simp only [Option.some.injEq,Prod.mk.injEq] at H
   obtain ⟨rfl,rfl,rfl⟩:=H
   obtain ⟨ASz7_0,cSz7_0,HGz7,hgz7,HSz7_0⟩:=HI0.out
   have hcz7_0:=cellS130_0 HGz7
   have hcz7_1:=cellS130_1 HGz7
   have hfz7_1:=zj6 HGz7 1
   clear HGz7 hgz7
   have p189:0≤((ji4):Int):=dt
   have q189:(ji4)<(s0_0.length:Int):=dt
   obtain ⟨ad189,e189,hx189_0⟩:=Kd.zjb HSz7_0 (ji4) p189 q189
   cases e189
   have hn189_0:ad189.block≠g:=Nat.ne_of_lt (Nat.lt_of_lt_of_le (by have:=World.block_lt_of_cell? _ _ hx189_0;first|rwa [add_block] at this|exact this) (zm.ge HI0.out))
   replace hx189_0:=zqw HB.out hx189_0
   replace hx189_0:=(cell_far (p:=⟨g,1,none⟩) (by first|(rw [add_block];exact hn189_0)|(show(Addr.add _ _).block≠_;rw [add_block];exact hn189_0)|exact hn189_0) (.int .i64 (wrap64 (s0_1+1)))).trans hx189_0
   (try have hy189_0:=fun (n_:Nat)=>(show(((w.drewN n_).setCell ⟨g,1,none⟩ (.int .i64 (wrap64 (s0_1+1))))).cell? _=some _ from hx189_0))
   clear hn189_0
   replace p189:=eq_true p189
   replace q189:=eq_true q189
   go_enter Tryd.func125,Tryd.ntmps125
   go_wp2
   repeat(go_quiet (fail);try go_wp2)
   go_ret2
   exact⟨by first|rfl|(simp [zg,zy] <;> rfl)|(simp only [← hji4];first|rfl|(simp [zg,zy] <;> rfl))|(simp [*,zg,zy] <;> rfl),by repeat(first|(with_reducible first|exact HI0.out|apply zm.alloc|apply zm.drewN|apply zm.drew|apply zm.zjc)|exact HI0.out),by repeat(first|(with_reducible first|exact HB.out|apply zl|apply zr|apply qx|refine qb ?_ (zm.ge HI0.out))|exact HB.out),by repeat(first|(with_reducible first|exact HK.out|apply qn.set_|apply qe|apply zqe|apply qi)|exact HK.out)⟩
  rw [if_neg c6] at H
  exact absurd H (by simp)
 rw [if_neg c5] at H
 exact absurd H (by simp)

/-! ### zqd: function 126 -/
def zqd.l0:Nat→Int→Int→List Int→Int→Option (Int × Int × ByteArray × Int × Int)
 | 0,_,_,_,_=>none
 | k+1,x4,x7,x1000,x1001=>if x7<8 then((zqj.f x1000 x1001).bind fun bt191=>(if bt191.2.1=true then(zqd.l0 k (Go.bits .or .u64 (IntKind.u64.wrap (x4 * 256)) (IntKind.u64.wrap (bt191.1))) (wrap64 (x7+1)) x1000 bt191.2.2) else (some (0,0,(⟨#[]⟩:ByteArray),5,bt191.2.2)))) else (some (2,wrap64 (Go.bits .xor .u64 x4 9223372036854775808),(⟨#[]⟩:ByteArray),0,x1001))
def zqd.f (k:Nat) (s0_0:List Int) (s0_1:Int):Option (Int × Int × ByteArray × Int × Int):=zqd.l0 k 0 0 s0_0 s0_1
theorem zqd.mono_l:∀ k,(∀ y0 y1 y2 y3,LeO (zqd.l0 k y0 y1 y2 y3) (zqd.l0 (k+1) y0 y1 y2 y3))
 | 0=>fun _ _ _ _ r h=>by simp [zqd.l0] at h
 | k+1=>by
  have ih0:=zqd.mono_l k
  intro y0 y1 y2 y3
  unfold zqd.l0
  repeat' first
  | (with_reducible first|exact ih0 _ _ _ _|exact LeO.refl _|exact LeO.none _|refine LeO.ite ?_ ?_|refine LeO.bind ?_ (fun _=>?_))
  | exact ih0 _ _ _ _
  | exact LeO.none _
  | refine LeO.ite ?_ ?_
  | refine LeO.bind ?_ (fun _=>?_)
theorem zqd.mono:∀ a0 a1 k,LeO (zqd.f k a0 a1) (zqd.f (k+1) a0 a1):=by
 intro a0 a1 k
 have ih0:=zqd.mono_l k
 unfold zqd.f
 repeat' first
   | (with_reducible first|exact ih0 _ _ _ _|exact LeO.refl _|exact LeO.none _|refine LeO.ite ?_ ?_|refine LeO.bind ?_ (fun _=>?_))
   | exact ih0 _ _ _ _
   | exact LeO.none _
   | refine LeO.ite ?_ ?_
   | refine LeO.bind ?_ (fun _=>?_)
set_option maxHeartbeats 8000000 in
set_option maxRecDepth 100000 in
theorem zqd.calls (k:Nat) (g:Nat) (s0_0:List Int) (s0_1:Int) (r1:Int) (r2:Int) (r3:ByteArray) (r4:Int) (r5:Int) (w0 w:World) (hI:zm w0 w g s0_0 s0_1) (hB:Below w0.heap.size w0 w) (h:zqd.f k s0_0 s0_1=some (r1,r2,r3,r4,r5)) :
  Calls Tryd.prog 126 #[.pointer (some ⟨g,0,none⟩)] w fun e w'=>e = .returned (.tuple #[.agg #[.int .i64 r1,.int .i64 r2,.string r3],.int .i64 r4])∧zm w0 w' g s0_0 r5∧Below w0.heap.size w0 w'∧qn w w' g none:=by
 have hu38:=Tryd.underlying38
 have HI0:=zq.mk hI
 have HK:=zq.mk (qn.refl w g none)
 have HL:=zq.mk hB.size
 clear hI
 have HW0:=zq.mk hB.size
 have HB:=zq.mk hB
 clear hB
 have H:(zqd.l0 k 0 0 s0_0 s0_1)=some (r1,r2,r3,r4,r5):=h
 clear h
 have H':=zq.mk H
 clear H
 go_enter Tryd.func126,Tryd.ntmps126
 go_wp2_with (first|((with_reducible refine qr (N:=2) rfl ?_);refine qm ?hg (N:=2) ?hd (cs:=#[.int .i64 0,.int .i64 0,.string (⟨#[]⟩:ByteArray)]) (t:=38) ?hr ?_;(case hd=>rfl);(case hg=>rfl);(case hr=>first|(go_simp;done)|(go_simp;rfl));intro gb190 hg w2 hbox hb;replace HB:=zq.mk (zn (by repeat(first|(with_reducible first|exact HB.out|apply zl|apply zr|apply qx|refine qb ?_ (zm.ge HI0.out))|exact HB.out)) hb);have BK190:=zq.mk (hbox);have GW190:=zq.mk ((by rw [hg];exact(zxd (w:=w) (g:=g) (row:=none) (by repeat(first|(with_reducible first|exact HK.out|apply qn.set_|apply qe|apply zqe|apply qi)|exact HK.out))):w.heap.size≤gb190));have GE190:=zq.mk ((Nat.le_trans HW0.out (by rw [hg];exact(zxd (w:=w) (g:=g) (row:=none) (by repeat(first|(with_reducible first|exact HK.out|apply qn.set_|apply qe|apply zqe|apply qi)|exact HK.out))):w.heap.size≤gb190):w0.heap.size≤gb190));replace HK:=zq.mk (qn.trans (by repeat(first|(with_reducible first|exact HK.out|apply qn.set_|apply qe|apply zqe|apply qi)|exact HK.out)) (qn.of_below hb g none) (.inl rfl));have NB0_190:=zq.mk ((by rw [hg];exact Nat.ne_of_lt (zm.lt (show zm w0 _ g s0_0 s0_1 from by repeat(first|(with_reducible first|exact HI0.out|apply zm.alloc|apply zm.drewN|apply zm.drew|apply zm.zjc)|exact HI0.out))):g≠gb190));have NB190_0:=zq.mk ((by rw [hg];exact Nat.ne_of_gt (zm.lt (show zm w0 _ g s0_0 s0_1 from by repeat(first|(with_reducible first|exact HI0.out|apply zm.alloc|apply zm.drewN|apply zm.drew|apply zm.zjc)|exact HI0.out))):gb190≠g));replace HI0:=zq.mk (zm.below (by repeat(first|(with_reducible first|exact HI0.out|apply zm.alloc|apply zm.drewN|apply zm.drew|apply zm.zjc)|exact HI0.out)) hb);clear hb hbox hg))
 go_loopg [4,7] k (fun kq v4 v7 w' => ∃ (x4_1:Int) (x7_1:Int) (x1001_1:Int) (x191000_1:Int) (x191001_1:Int) (x191002_1:ByteArray),v4 = .int .u64 x4_1∧v7 = .int .i64 x7_1∧zq (zqd.l0 kq x4_1 x7_1 s0_0 x1001_1=some (r1,r2,r3,r4,r5))∧zq (kq≤k)∧zq (w'.heap[gb190]? = some (.cells #[.int .i64 x191000_1,.int .i64 x191001_1,.string x191002_1] 38 (0,0)))∧zq (zm w0 w' g s0_0 x1001_1)∧zq (qn w w' g none)∧zq (Below w0.heap.size w0 w'))
 case atStart=>exact⟨(0),(0),(s0_1),(0),(0),((⟨#[]⟩:ByteArray)),vr,vr,H',⟨Nat.le_refl _⟩,⟨by(with_reducible repeat(first|refine zz ?_ _|refine zk ?_|refine zj ?_ _));exact BK190.out⟩,⟨by repeat(first|(with_reducible first|exact HI0.out|apply zm.alloc|apply zm.drewN|apply zm.drew|apply zm.zjc|refine zm.far ?_ NB0_190.out _)|exact HI0.out)⟩,⟨by repeat(first|(with_reducible first|exact HK.out|apply qn.set_|apply qe|apply zqe|apply qi|refine zqt ?_ GW190.out _)|exact HK.out)⟩,⟨by repeat(first|(with_reducible first|exact HB.out|apply zl|apply zr|apply qx|refine qb ?_ (zm.ge HI0.out)|refine qb ?_ GE190.out)|exact HB.out)⟩⟩
 case round=>
  clear H'
  obtain ⟨x4_1,x7_1,x1001_1,x191000_1,x191001_1,x191002_1,rfl,rfl,HA,HK1,BK190,HI0,HK,HB⟩:=hrel
  cases gk with
  | zero=>exact absurd HA.out (by simp [zqd.l0])
  | succ k1=>
   have H:=HA.out
   clear HA
   simp only [zqd.l0] at H
   by_cases c3:x7_1<8
   ·rw [if_pos c3] at H
    have c3b0:=decide_eq_true c3
    clear c3
    replace H:=Option.bind_eq_some_iff.mp H
    obtain ⟨⟨t191,t192,t193⟩,A40,H⟩:=H
    replace H:(if t192=true then(zqd.l0 k1 (Go.bits .or .u64 (IntKind.u64.wrap (x4_1 * 256)) (IntKind.u64.wrap (t191))) (wrap64 (x7_1+1)) s0_0 t193) else (some (0,0,(⟨#[]⟩:ByteArray),5,t193)))=some (r1,r2,r3,r4,r5):=H
    have A4:=zq.mk A40
    clear A40
    by_cases c5:t192=true
    ·subst c5
     rw [if_pos rfl] at H
     have H':=zq.mk H
     clear H
     go_wp2_with (first|((with_reducible refine qh (f:=125) rfl ?_);refine zqn (some 11) rfl rfl Tryd.func125 (by kernel_rfl) rfl #[.pointer (some ⟨g,0,none⟩)] rfl gs ?_;(with_reducible refine(zqj.calls g s0_0 x1001_1 t191 true t193 w0 _ ?side1 ?side2 A4.out).mono ?_);(case side1=>repeat(first|(with_reducible first|exact HI0.out|apply zm.alloc|apply zm.drewN|apply zm.drew|apply zm.zjc|refine zm.far ?_ NB0_190.out _)|exact HI0.out));(case side2=>repeat(first|(with_reducible first|exact HB.out|apply zl|apply zr|apply qx|refine qb ?_ (zm.ge HI0.out)|refine qb ?_ GE190.out)|exact HB.out));rintro e w6 ⟨rfl,hi,hb,hk⟩;refine⟨_,rfl,?_⟩;replace BK190:=zq.mk (qn.blk hk (g':=gb190) (o:=.cells #[.int .i64 x191000_1,.int .i64 x191001_1,.string x191002_1] 38 (0,0)) (up BK190.out) NB190_0.out (by simp));replace HK:=zq.mk (qn.trans (by repeat(first|(with_reducible first|exact HK.out|apply qn.set_|apply qe|apply zqe|apply qi|refine zqt ?_ GW190.out _)|exact HK.out)) hk (.inl rfl));replace HB:=zq.mk (hb);replace HI0:=zq.mk (hi);(try clear hb);(try clear hb2);(try clear hk);(try clear hi)))
     go_roundg k1
     case measure=>have:=HK1.out;omega
     case rel=>exact⟨(Go.bits .or .u64 (IntKind.u64.wrap (x4_1 * 256)) (IntKind.u64.wrap (t191))),(wrap64 (x7_1+1)),(t193),(x191000_1),(x191001_1),(x191002_1),vr,vr,H',⟨by have:=HK1.out;omega⟩,⟨by(with_reducible repeat(first|refine zz ?_ _|refine zk ?_|refine zj ?_ _));exact BK190.out⟩,⟨by repeat(first|(with_reducible first|exact HI0.out|apply zm.alloc|apply zm.drewN|apply zm.drew|apply zm.zjc|refine zm.far ?_ NB0_190.out _)|exact HI0.out)⟩,⟨by repeat(first|(with_reducible first|exact HK.out|apply qn.set_|apply qe|apply zqe|apply qi|refine zqt ?_ GW190.out _)|exact HK.out)⟩,⟨by repeat(first|(with_reducible first|exact HB.out|apply zl|apply zr|apply qx|refine qb ?_ (zm.ge HI0.out)|refine qb ?_ GE190.out)|exact HB.out)⟩⟩
    replace c5:=Bool.eq_false_iff.mpr c5
    subst c5
    rw [if_neg (show ¬ (false=true) by decide)] at H
    simp only [Option.some.injEq,Prod.mk.injEq] at H
    obtain ⟨rfl,rfl,rfl,rfl,rfl⟩:=H
    go_wp2_with (first|((with_reducible refine qh (f:=125) rfl ?_);refine zqn (some 11) rfl rfl Tryd.func125 (by kernel_rfl) rfl #[.pointer (some ⟨g,0,none⟩)] rfl gs ?_;(with_reducible refine(zqj.calls g s0_0 x1001_1 t191 false t193 w0 _ ?side1 ?side2 A4.out).mono ?_);(case side1=>repeat(first|(with_reducible first|exact HI0.out|apply zm.alloc|apply zm.drewN|apply zm.drew|apply zm.zjc|refine zm.far ?_ NB0_190.out _)|exact HI0.out));(case side2=>repeat(first|(with_reducible first|exact HB.out|apply zl|apply zr|apply qx|refine qb ?_ (zm.ge HI0.out)|refine qb ?_ GE190.out)|exact HB.out));rintro e w7 ⟨rfl,hi,hb,hk⟩;refine⟨_,rfl,?_⟩;replace BK190:=zq.mk (qn.blk hk (g':=gb190) (o:=.cells #[.int .i64 x191000_1,.int .i64 x191001_1,.string x191002_1] 38 (0,0)) (up BK190.out) NB190_0.out (by simp));replace HK:=zq.mk (qn.trans (by repeat(first|(with_reducible first|exact HK.out|apply qn.set_|apply qe|apply zqe|apply qi|refine zqt ?_ GW190.out _)|exact HK.out)) hk (.inl rfl));replace HB:=zq.mk (hb);replace HI0:=zq.mk (hi);(try clear hb);(try clear hb2);(try clear hk);(try clear hi);have hnb8:=NB190_0.out;have hnc8:=NB0_190.out;obtain ⟨hcz9_0,hcz9_1,hcz9_2,hfz9_0,hfz9_1,hfz9_2⟩:=qd BK190.out))
    refine bodyPost_ret (zjp rfl _ _ gb190 38 #[.int .i64 0,.int .i64 0,.string (⟨#[]⟩:ByteArray)] (0,0) _ rfl (by(with_reducible repeat(first|refine zz ?_ _|refine zk ?_|refine zj ?_ _));refine qw (cs:=#[.int .i64 0,.int .i64 0,.string x191002_1]) ?_ 2 _ rfl;(with_reducible repeat(first|refine zz ?_ _|refine zk ?_|refine zj ?_ _));refine qw (cs:=#[.int .i64 0,.int .i64 x191001_1,.string x191002_1]) ?_ 1 _ rfl;(with_reducible repeat(first|refine zz ?_ _|refine zk ?_|refine zj ?_ _));refine qw (cs:=#[.int .i64 x191000_1,.int .i64 x191001_1,.string x191002_1]) ?_ 0 _ rfl;(with_reducible repeat(first|refine zz ?_ _|refine zk ?_|refine zj ?_ _));exact BK190.out) Tryd.underlying38 rfl (by kernel_rfl)) rfl ?_
    exact⟨by first|rfl|(simp [zg,zy] <;> rfl)|(simp [*,zg,zy] <;> rfl),by repeat(first|(with_reducible first|exact HI0.out|apply zm.alloc|apply zm.drewN|apply zm.drew|apply zm.zjc|refine zm.far ?_ NB0_190.out _)|exact HI0.out),by repeat(first|(with_reducible first|exact HB.out|apply zl|apply zr|apply qx|refine qb ?_ (zm.ge HI0.out)|refine qb ?_ GE190.out)|exact HB.out),by repeat(first|(with_reducible first|exact HK.out|apply qn.set_|apply qe|apply zqe|apply qi|refine zqt ?_ GW190.out _)|exact HK.out)⟩
   rw [if_neg c3] at H
   have c3b0:=decide_eq_false c3
   clear c3
   simp only [Option.some.injEq,Prod.mk.injEq] at H
   obtain ⟨rfl,rfl,rfl,rfl,rfl⟩:=H
   have hnb10:=NB190_0.out
   have hnc10:=NB0_190.out
   obtain ⟨hcz11_0,hcz11_1,hcz11_2,hfz11_0,hfz11_1,hfz11_2⟩:=qd BK190.out
   go_wp2
   refine bodyPost_ret (zjp rfl _ _ gb190 38 #[.int .i64 2,.int .i64 (wrap64 (Go.bits .xor .u64 x4_1 9223372036854775808)),.string (⟨#[]⟩:ByteArray)] (0,0) _ rfl (by(with_reducible repeat(first|refine zz ?_ _|refine zk ?_|refine zj ?_ _));refine qw (cs:=#[.int .i64 2,.int .i64 (wrap64 (Go.bits .xor .u64 x4_1 9223372036854775808)),.string x191002_1]) ?_ 2 _ rfl;(with_reducible repeat(first|refine zz ?_ _|refine zk ?_|refine zj ?_ _));refine qw (cs:=#[.int .i64 2,.int .i64 x191001_1,.string x191002_1]) ?_ 1 _ rfl;(with_reducible repeat(first|refine zz ?_ _|refine zk ?_|refine zj ?_ _));refine qw (cs:=#[.int .i64 x191000_1,.int .i64 x191001_1,.string x191002_1]) ?_ 0 _ rfl;(with_reducible repeat(first|refine zz ?_ _|refine zk ?_|refine zj ?_ _));exact BK190.out) Tryd.underlying38 rfl (by kernel_rfl)) rfl ?_
   exact⟨by first|rfl|(simp [zg,zy] <;> rfl)|(simp [*,zg,zy] <;> rfl),by repeat(first|(with_reducible first|exact HI0.out|apply zm.alloc|apply zm.drewN|apply zm.drew|apply zm.zjc|refine zm.far ?_ NB0_190.out _)|exact HI0.out),by repeat(first|(with_reducible first|exact HB.out|apply zl|apply zr|apply qx|refine qb ?_ (zm.ge HI0.out)|refine qb ?_ GE190.out)|exact HB.out),by repeat(first|(with_reducible first|exact HK.out|apply qn.set_|apply qe|apply zqe|apply qi|refine zqt ?_ GW190.out _)|exact HK.out)⟩

/-! ### zki: function 165 -/
def zki.f (l0:List Int):Option (Int):=if 0<(l0.length:Int) then(if 1<(l0.length:Int) then(if 2<(l0.length:Int) then(if 3<(l0.length:Int) then(if 4<(l0.length:Int) then(if 5<(l0.length:Int) then(if 6<(l0.length:Int) then(if 7<(l0.length:Int) then(some (Go.bits .or .u64 (Go.bits .or .u64 (Go.bits .or .u64 (Go.bits .or .u64 (Go.bits .or .u64 (Go.bits .or .u64 (Go.bits .or .u64 (IntKind.u64.wrap (rd l0 0)) (IntKind.u64.wrap ((IntKind.u64.wrap (rd l0 1)) * 256))) (IntKind.u64.wrap ((IntKind.u64.wrap (rd l0 2)) * 65536))) (IntKind.u64.wrap ((IntKind.u64.wrap (rd l0 3)) * 16777216))) (IntKind.u64.wrap ((IntKind.u64.wrap (rd l0 4)) * 4294967296))) (IntKind.u64.wrap ((IntKind.u64.wrap (rd l0 5)) * 1099511627776))) (IntKind.u64.wrap ((IntKind.u64.wrap (rd l0 6)) * 281474976710656))) (IntKind.u64.wrap ((IntKind.u64.wrap (rd l0 7)) * 72057594037927936)))) else (none)) else (none)) else (none)) else (none)) else (none)) else (none)) else (none)) else (none)
set_option maxHeartbeats 8000000 in
set_option maxRecDepth 100000 in
theorem zki.calls (A0:Option Addr) (c0:Nat) (l0:List Int) (r:Int) (w:World) (hr0:Kd.C (Kd.int .u8) w A0 l0.length l0) (hc0:l0.length≤c0) (h:zki.f l0=some r) :
  Calls Tryd.prog 165 #[.slice A0 l0.length c0] w fun e w'=>e = .returned (.int .u64 r)∧za w w':=by
 have HR0:=zq.mk hr0
 have HC0:=zq.mk hc0
 clear hr0 hc0
 have H:(if 0<(l0.length:Int) then(if 1<(l0.length:Int) then(if 2<(l0.length:Int) then(if 3<(l0.length:Int) then(if 4<(l0.length:Int) then(if 5<(l0.length:Int) then(if 6<(l0.length:Int) then(if 7<(l0.length:Int) then(some (Go.bits .or .u64 (Go.bits .or .u64 (Go.bits .or .u64 (Go.bits .or .u64 (Go.bits .or .u64 (Go.bits .or .u64 (Go.bits .or .u64 (IntKind.u64.wrap (rd l0 0)) (IntKind.u64.wrap ((IntKind.u64.wrap (rd l0 1)) * 256))) (IntKind.u64.wrap ((IntKind.u64.wrap (rd l0 2)) * 65536))) (IntKind.u64.wrap ((IntKind.u64.wrap (rd l0 3)) * 16777216))) (IntKind.u64.wrap ((IntKind.u64.wrap (rd l0 4)) * 4294967296))) (IntKind.u64.wrap ((IntKind.u64.wrap (rd l0 5)) * 1099511627776))) (IntKind.u64.wrap ((IntKind.u64.wrap (rd l0 6)) * 281474976710656))) (IntKind.u64.wrap ((IntKind.u64.wrap (rd l0 7)) * 72057594037927936)))) else (none)) else (none)) else (none)) else (none)) else (none)) else (none)) else (none)) else (none))=some r:=h
 clear h
 by_cases c2:0<(l0.length:Int)
 ·rw [if_pos c2] at H
  have c2b0:=decide_eq_true c2
  have c2b1:decide (0<l0.length)=true:=decide_eq_true (by omega)
  clear c2
  by_cases c3:1<(l0.length:Int)
  ·rw [if_pos c3] at H
   have c3b0:=decide_eq_true c3
   have c3b1:decide (1<l0.length)=true:=decide_eq_true (by omega)
   clear c3
   by_cases c4:2<(l0.length:Int)
   ·rw [if_pos c4] at H
    have c4b0:=decide_eq_true c4
    have c4b1:decide (2<l0.length)=true:=decide_eq_true (by omega)
    clear c4
    by_cases c5:3<(l0.length:Int)
    ·rw [if_pos c5] at H
     have c5b0:=decide_eq_true c5
     have c5b1:decide (3<l0.length)=true:=decide_eq_true (by omega)
     clear c5
     by_cases c6:4<(l0.length:Int)
     ·rw [if_pos c6] at H
      have c6b0:=decide_eq_true c6
      have c6b1:decide (4<l0.length)=true:=decide_eq_true (by omega)
      clear c6
      by_cases c7:5<(l0.length:Int)
      ·rw [if_pos c7] at H
       have c7b0:=decide_eq_true c7
       have c7b1:decide (5<l0.length)=true:=decide_eq_true (by omega)
       clear c7
       by_cases c8:6<(l0.length:Int)
       ·rw [if_pos c8] at H
        have c8b0:=decide_eq_true c8
        have c8b1:decide (6<l0.length)=true:=decide_eq_true (by omega)
        clear c8
        by_cases c9:7<(l0.length:Int)
        ·rw [if_pos c9] at H
         have c9b0:=decide_eq_true c9
         have c9b1:decide (7<l0.length)=true:=decide_eq_true (by omega)
         clear c9
         obtain rfl:=Option.some.inj H
         have p194:0≤(0:Int):=(by omega)
         have q194:0<(l0.length:Int):=dt
         obtain ⟨ad194,e194,hx194_0⟩:=Kd.zjb HR0.out 0 p194 q194
         cases e194
         have qi194:(0<l0.length)=True:=eq_true (by omega)
         (try rw [show((0:Int)).toNat=0 from rfl] at hx194_0)
         (try rw [Addr.add_zero'] at hx194_0)
         replace p194:=eq_true p194
         replace q194:=eq_true q194
         have p195:0≤(1:Int):=(by omega)
         have q195:1<(l0.length:Int):=dt
         obtain ⟨ad195,e195,hx195_0⟩:=Kd.zjb HR0.out 1 p195 q195
         obtain rfl:ad194=ad195:=(by injection e195)
         (try simp only [show(1:Int).toNat=1 from rfl,Nat.reduceMul,Nat.reduceEqDiff,Go.Addr.add, ↓reduceIte] at hx195_0)
         have qi195:(1<l0.length)=True:=eq_true (by omega)
         (try rw [show((1:Int)).toNat=1 from rfl] at hx195_0)
         replace p195:=eq_true p195
         replace q195:=eq_true q195
         have p196:0≤(2:Int):=(by omega)
         have q196:2<(l0.length:Int):=dt
         obtain ⟨ad196,e196,hx196_0⟩:=Kd.zjb HR0.out 2 p196 q196
         obtain rfl:ad194=ad196:=(by injection e196)
         (try simp only [show(2:Int).toNat=2 from rfl,Nat.reduceMul,Nat.reduceEqDiff,Go.Addr.add, ↓reduceIte] at hx196_0)
         have qi196:(2<l0.length)=True:=eq_true (by omega)
         (try rw [show((2:Int)).toNat=2 from rfl] at hx196_0)
         replace p196:=eq_true p196
         replace q196:=eq_true q196
         have p197:0≤(3:Int):=(by omega)
         have q197:3<(l0.length:Int):=dt
         obtain ⟨ad197,e197,hx197_0⟩:=Kd.zjb HR0.out 3 p197 q197
         obtain rfl:ad194=ad197:=(by injection e197)
         (try simp only [show(3:Int).toNat=3 from rfl,Nat.reduceMul,Nat.reduceEqDiff,Go.Addr.add, ↓reduceIte] at hx197_0)
         have qi197:(3<l0.length)=True:=eq_true (by omega)
         (try rw [show((3:Int)).toNat=3 from rfl] at hx197_0)
         replace p197:=eq_true p197
         replace q197:=eq_true q197
         have p198:0≤(4:Int):=(by omega)
         have q198:4<(l0.length:Int):=dt
         obtain ⟨ad198,e198,hx198_0⟩:=Kd.zjb HR0.out 4 p198 q198
         obtain rfl:ad194=ad198:=(by injection e198)
         (try simp only [show(4:Int).toNat=4 from rfl,Nat.reduceMul,Nat.reduceEqDiff,Go.Addr.add, ↓reduceIte] at hx198_0)
         have qi198:(4<l0.length)=True:=eq_true (by omega)
         (try rw [show((4:Int)).toNat=4 from rfl] at hx198_0)
         replace p198:=eq_true p198
         replace q198:=eq_true q198
         have p199:0≤(5:Int):=(by omega)
         have q199:5<(l0.length:Int):=dt
         obtain ⟨ad199,e199,hx199_0⟩:=Kd.zjb HR0.out 5 p199 q199
         obtain rfl:ad194=ad199:=(by injection e199)
         (try simp only [show(5:Int).toNat=5 from rfl,Nat.reduceMul,Nat.reduceEqDiff,Go.Addr.add, ↓reduceIte] at hx199_0)
         have qi199:(5<l0.length)=True:=eq_true (by omega)
         (try rw [show((5:Int)).toNat=5 from rfl] at hx199_0)
         replace p199:=eq_true p199
         replace q199:=eq_true q199
         have p200:0≤(6:Int):=(by omega)
         have q200:6<(l0.length:Int):=dt
         obtain ⟨ad200,e200,hx200_0⟩:=Kd.zjb HR0.out 6 p200 q200
         obtain rfl:ad194=ad200:=(by injection e200)
         (try simp only [show(6:Int).toNat=6 from rfl,Nat.reduceMul,Nat.reduceEqDiff,Go.Addr.add, ↓reduceIte] at hx200_0)
         have qi200:(6<l0.length)=True:=eq_true (by omega)
         (try rw [show((6:Int)).toNat=6 from rfl] at hx200_0)
         replace p200:=eq_true p200
         replace q200:=eq_true q200
         have p201:0≤(7:Int):=(by omega)
         have q201:7<(l0.length:Int):=dt
         obtain ⟨ad201,e201,hx201_0⟩:=Kd.zjb HR0.out 7 p201 q201
         obtain rfl:ad194=ad201:=(by injection e201)
         (try simp only [show(7:Int).toNat=7 from rfl,Nat.reduceMul,Nat.reduceEqDiff,Go.Addr.add, ↓reduceIte] at hx201_0)
         have qi201:(7<l0.length)=True:=eq_true (by omega)
         (try rw [show((7:Int)).toNat=7 from rfl] at hx201_0)
         replace p201:=eq_true p201
         replace q201:=eq_true q201
         go_enter Tryd.func165,Tryd.ntmps165
         go_wp2
         repeat(go_quiet (fail);try go_wp2)
         go_ret
         exact⟨by first|rfl|(simp;done)|(simp [*];done),by repeat(first|exact za.refl _|apply za.step)⟩
        rw [if_neg c9] at H
        exact absurd H (by simp)
       rw [if_neg c8] at H
       exact absurd H (by simp)
      rw [if_neg c7] at H
      exact absurd H (by simp)
     rw [if_neg c6] at H
     exact absurd H (by simp)
    rw [if_neg c5] at H
    exact absurd H (by simp)
   rw [if_neg c4] at H
   exact absurd H (by simp)
  rw [if_neg c3] at H
  exact absurd H (by simp)
 rw [if_neg c2] at H
 exact absurd H (by simp)

end Go.Proofs.YthhejedfjgikdaaDoor.PRowReads
