-- Written by wip/pp of this repo (over the kit's print, with additions of this session); Lean checks every line.
import Derived.Test.YthhejedfjgikdaaDoorPRowEntriesx7
namespace Go.Proofs.YthhejedfjgikdaaDoor.PRowEntries
open Go.RowKit Go.Proofs.YthhejedfjgikdaaDoorW.PrintWords Go.Proofs.YthhejedfjgikdaaDoorW.PrintLast Go.Proofs.YthhejedfjgikdaaDoorW.PrintMore
attribute [local go_sem] zxq zxo zx0 zxz zxg zxf zxp zxn   -- for this text's walks alone
set_option linter.unusedVariables false
set_option linter.unusedSimpArgs false

/-! ### zj5: function 98 -/
def zj5.l0:Nat→List (S38)→List (S38)→List Int→Int→Int→Option ((List (S38)))
 | 0,_,_,_,_,_=>none
 | k+1,x0,x5,x8,x9,x10=>if x10<x9 then(if 0≤x10 then(if x10<(x8.length:Int) then(if 0≤(rd x8 x10) then(if(rd x8 x10)<(x0.length:Int) then(if x5.length<4398046511104 then(zj5.l0 k x0 (x5 ++ [(⟨(zqs x0 (rd x8 x10)).f0,(zqs x0 (rd x8 x10)).f1,(zqs x0 (rd x8 x10)).f2⟩:S38)]) x8 x9 (wrap64 (x10+1))) else (none)) else (none)) else (none)) else (none)) else (none)) else (some x5)
def zj5.f (k:Nat) (l0:List (S38)) (l1:List Int):Option ((List (S38))):=zj5.l0 k l0 ([]:List (S38)) l1 (l1.length:Int) 0
theorem zj5.mono_l:∀ k,(∀ y0 y1 y2 y3 y4,LeO (zj5.l0 k y0 y1 y2 y3 y4) (zj5.l0 (k+1) y0 y1 y2 y3 y4))
 | 0=>fun _ _ _ _ _ r h=>by simp [zj5.l0] at h
 | k+1=>by
  have ih0:=zj5.mono_l k
  ·intro y0 y1 y2 y3 y4
   unfold zj5.l0
   repeat' first
   | (with_reducible first|exact ih0 _ _ _ _ _|exact LeO.refl _|exact LeO.none _|refine LeO.ite ?_ ?_|refine LeO.bind ?_ (fun _=>?_))
   | exact ih0 _ _ _ _ _
   | exact LeO.none _
   | refine LeO.ite ?_ ?_
   | refine LeO.bind ?_ (fun _=>?_)
theorem zj5.mono:∀ a0 a1 k,LeO (zj5.f k a0 a1) (zj5.f (k+1) a0 a1):=by
 intro a0 a1 k
 have ih0:=zj5.mono_l k
 unfold zj5.f
 repeat' first
   | (with_reducible first|exact ih0 _ _ _ _ _|exact LeO.refl _|exact LeO.none _|refine LeO.ite ?_ ?_|refine LeO.bind ?_ (fun _=>?_))
   | exact ih0 _ _ _ _ _
   | exact LeO.none _
   | refine LeO.ite ?_ ?_
   | refine LeO.bind ?_ (fun _=>?_)
set_option maxHeartbeats 8000000 in
set_option maxRecDepth 100000 in
theorem zj5.calls (k:Nat) (A0:Option Addr) (c0:Nat) (l0:List (S38)) (A1:Option Addr) (c1:Nat) (l1:List Int) (r:List (S38)) (w:World) (hr0:Kd.C k38 w A0 l0.length l0) (hc0:l0.length≤c0) (hr1:Kd.C (Kd.int .i64) w A1 l1.length l1) (hc1:l1.length≤c1) (h:zj5.f k l0 l1=some r) :
  Calls Tryd.prog 98 #[.slice A0 l0.length c0,.slice A1 l1.length c1] w fun e w' => ∃ v0_:Value,e = .returned (v0_)∧Kd.R k38 38 w' w.heap.size (fun _=>True) v0_ r∧Below w.heap.size w w':=by
 have hu38:=Tryd.underlying38
 have HR0:=zqd.mk hr0
 have HC0:=zqd.mk hc0
 clear hr0 hc0
 have HR1:=zqd.mk hr1
 have HC1:=zqd.mk hc1
 clear hr1 hc1
 have HB:=zqd.mk (Below.refl w.heap.size w)
 have H:(zj5.l0 k l0 ([]:List (S38)) l1 (l1.length:Int) 0)=some r:=h
 clear h
 have H':=zqd.mk H
 clear H
 go_enter Tryd.func98,Tryd.ntmps98
 go_wp2
 go_loopg [5,10] k (fun kq v5 v10 w' => ∃ (x5_1:List (S38)) (x10_1:Int),v10 = .int .i64 x10_1∧zqd (zj5.l0 kq l0 x5_1 l1 (l1.length:Int) x10_1=some r)∧zqd (kq≤k)∧zqd (Kd.R k38 38 w' w.heap.size (fun _=>True) v5 x5_1)∧zqd (Below w.heap.size w w'))
 case atStart=>exact⟨(([]:List (S38))),(0),(by first|rfl|(simp;done)|(simp [*];done)|(generalize ByteArray.toList _=q_;cases q_ <;> rfl)),H',⟨Nat.le_refl _⟩,⟨by first|exact Kd.R_nil _ _ _ _ _|exact Kd.N_nil _ _ _ _ _|exact Kd.V_nil _ _ _ _ _|exact Kd.Q_nil _ _ _ _ _|exact Kd.S_nil _ _ _ _ _⟩,⟨by repeat(first|(with_reducible first|exact HB.out|apply zqb|apply zqa|apply zqc)|exact HB.out)⟩⟩
 case round=>
  clear H'
  try clear c1
  try clear p2
  obtain ⟨x5_1,x10_1,rfl,HA,HK1,HO_5,HB⟩:=hrel
  cases gk with
  | zero=>exact absurd HA.out (by simp [zj5.l0])
  | succ k1=>
   have H:=HA.out
   clear HA
   simp only [zj5.l0] at H
   by_cases c3:x10_1<(l1.length:Int)
   ·rw [if_pos c3] at H
    have c3b0:decide (x10_1<(l1.length:Int))=true:=decide_eq_true c3
    clear c3
    by_cases c4:0≤x10_1
    ·rw [if_pos c4] at H
     have c4b0:decide (0≤x10_1)=true:=decide_eq_true c4
     clear c4
     by_cases c5:x10_1<(l1.length:Int)
     ·rw [if_pos c5] at H
      have c5b0:decide (x10_1<(l1.length:Int))=true:=decide_eq_true c5
      clear c5
      by_cases c6:0≤(rd l1 x10_1)
      ·rw [if_pos c6] at H
       have c6b0:decide (0≤(rd l1 x10_1))=true:=decide_eq_true c6
       clear c6
       by_cases c7:(rd l1 x10_1)<(l0.length:Int)
       ·rw [if_pos c7] at H
        have c7b0:decide ((rd l1 x10_1)<(l0.length:Int))=true:=decide_eq_true c7
        clear c7
        by_cases c8:x5_1.length<4398046511104
        ·rw [if_pos c8] at H
         have LMc8:=zqd.mk c8
         clear c8
         obtain ⟨y165,hy165⟩:∃ y_:List (S38),y_=(x5_1 ++ [(⟨(zqs l0 (rd l1 x10_1)).f0,(zqs l0 (rd l1 x10_1)).f1,(zqs l0 (rd l1 x10_1)).f2⟩:S38)]):=⟨_,rfl⟩
         replace H:(zj5.l0 k1 l0 y165 l1 (l1.length:Int) (wrap64 (x10_1+1)))=some r:=by first|(rw [hy165];with_reducible exact H)|(have H2_:=(Option.bind_some _ _).symm.trans H;rw [hy165];with_reducible exact H2_)|(have H2_:=(Option.bind_some _ _).symm.trans H;with_reducible exact H2_)|with_reducible exact H|(rw [hy165];exact H)|exact H
         have Ny165:=zqd.mk hy165
         clear hy165
         have H':=zqd.mk H
         clear H
         have p163:0≤(x10_1:Int):=of_decide_eq_true (by first|(with_reducible assumption)|assumption)
         have q163:x10_1<(l1.length:Int):=of_decide_eq_true (by first|(with_reducible assumption)|assumption)
         obtain ⟨ad163,e163,hx163_0⟩:=Kd.zke HR1.out x10_1 p163 q163
         cases e163
         replace hx163_0:=(HB.out.cell (World.block_lt_of_cell? w _ hx163_0)).trans hx163_0
         replace p163:=eq_true p163
         replace q163:=eq_true q163
         have p164:0≤((rd l1 x10_1):Int):=of_decide_eq_true (by first|(with_reducible assumption)|assumption)
         have q164:(rd l1 x10_1)<(l0.length:Int):=of_decide_eq_true (by first|(with_reducible assumption)|assumption)
         obtain ⟨ad164,e164,hx164_0,hx164_1,hx164_2⟩:=at_T38 HR0.out (rd l1 x10_1) p164 q164
         cases e164
         replace hx164_0:=(HB.out.cell (World.block_lt_of_cell? w _ hx164_0)).trans hx164_0
         replace hx164_1:=(HB.out.cell (World.block_lt_of_cell? w _ hx164_1)).trans hx164_1
         replace hx164_2:=(HB.out.cell (World.block_lt_of_cell? w _ hx164_2)).trans hx164_2
         replace p164:=eq_true p164
         replace q164:=eq_true q164
         go_wp2_with (first|((with_reducible refine zkj (b:=.append) (xs:=#[.tmp 14,.tmp 19]) rfl ?_);at_builtin;refine Kd.zxl k38 (w0:=w) w.heap.size rfl (.tmp 14) (.tmp 19) 23 38 (.agg #[(.int .i64 0),(.int .i64 0),(.string ⟨#[]⟩)]) 32 rfl Tryd.underlying23 info38 rfl (by decide) (by omega) u5 x5_1 (⟨(zqs l0 (rd l1 x10_1)).f0,(zqs l0 (rd l1 x10_1)).f1,(zqs l0 (rd l1 x10_1)).f2⟩:S38) [.int .i64 ((zqs l0 (rd l1 x10_1)).f0),.int .i64 ((zqs l0 (rd l1 x10_1)).f1),.string ((zqs l0 (rd l1 x10_1)).f2)] (fun _=>True) (fun _=>False) rfl rfl ?aP (fun _ hk=>hk.elim) ?aF ?aO ?aB ?aS ?aL ?_;(case aP=>exact k38_mkM _ _ _ (⟨(zqs l0 (rd l1 x10_1)).f0,(zqs l0 (rd l1 x10_1)).f1,(zqs l0 (rd l1 x10_1)).f2⟩:S38));(case aB=>exact(by repeat(first|(with_reducible first|exact HB.out|apply zqb|apply zqa|apply zqc)|exact HB.out)));(case aF=>exact(fun _ _=>trivial));(case aO=>exact(by(with_reducible repeat(first|apply Kd.zq4|apply Kd.zq5|apply Kd.zq7));exact HO_5.out));(case aS=>exact(zqk (by repeat(first|(with_reducible first|exact HB.out|apply zqb|apply zqa|apply zqc)|exact HB.out))));(case aL=>have:=LMc8.out;omega);intro v166 w9 ho hb hg hat;rw [← Ny165.out] at ho;have n0_:=zqd.mk (hb);have n1_:=zqd.mk (ho);clear HB HO_5;have HB:=n0_;have HO167:=n1_;clear n0_ n1_ ho hb hg hat))
         go_roundg k1
         case measure=>have:=HK1.out;omega
         case rel=>exact⟨(y165),(wrap64 (x10_1+1)),(by first|rfl|(simp;done)|(simp [*];done)|(generalize ByteArray.toList _=q_;cases q_ <;> rfl)),H',⟨by have:=HK1.out;omega⟩,⟨by(with_reducible repeat(first|apply Kd.zq4|apply Kd.zq5|apply Kd.zq7));exact HO167.out⟩,⟨by repeat(first|(with_reducible first|exact HB.out|apply zqb|apply zqa|apply zqc)|exact HB.out)⟩⟩
        ·rw [if_neg c8] at H
         exact absurd H (by simp)
       ·rw [if_neg c7] at H
        exact absurd H (by simp)
      ·rw [if_neg c6] at H
       exact absurd H (by simp)
     ·rw [if_neg c5] at H
      exact absurd H (by simp)
    ·rw [if_neg c4] at H
     exact absurd H (by simp)
   ·rw [if_neg c3] at H
    have c3b0:decide (x10_1<(l1.length:Int))=false:=decide_eq_false c3
    clear c3
    obtain rfl:=Option.some.inj H
    go_wp2
    go_ret
    exact⟨_,by first|rfl|(simp [zqm,zql] <;> rfl)|(simp [*,zqm,zql] <;> rfl),by(with_reducible repeat(first|apply Kd.zq4|apply Kd.zq5|apply Kd.zq7));exact HO_5.out,by repeat(first|(with_reducible first|exact HB.out|apply zqb|apply zqa|apply zqc)|exact HB.out)⟩

/-! ### zj6: function 58 -/
def zj6.l0:Nat→List (S38)→List (S38)→List (List Int)→Int→Int→Option (List Int × List Int)
 | 0,_,_,_,_,_=>none
 | k+1,x2,x9,x19,x20,x21=>if x21<x20 then(if 0≤x21 then(if x21<(x19.length:Int) then((zj5.f k x2 (rd_L4 x19 x21)).bind fun t179=>(if x9.length+t179.length<4398046511104 then(zj6.l0 k x2 (x9 ++ t179) x19 x20 (wrap64 (x21+1))) else (none))) else (none)) else (none)) else ((zj4.f k x9).bind fun bt185=>(some (bt185.1,([]:List Int))))
def zj6.f (k:Nat) (a0:Int) (a1:Int) (l2:List (S38)) (l3:List (List Int)):Option (List Int × List Int):=(zx4.f a0).bind fun bt169=>((zx4.f a1).bind fun bt172=>(zj6.l0 k l2 (([(⟨bt169.1,bt169.2.1,bt169.2.2⟩:S38),(⟨bt172.1,bt172.2.1,bt172.2.2⟩:S38)]:List (S38))) l3 (l3.length:Int) 0))
theorem zj6.mono_l:∀ k,(∀ y0 y1 y2 y3 y4,LeO (zj6.l0 k y0 y1 y2 y3 y4) (zj6.l0 (k+1) y0 y1 y2 y3 y4))
 | 0=>fun _ _ _ _ _ r h=>by simp [zj6.l0] at h
 | k+1=>by
  have ih0:=zj6.mono_l k
  ·intro y0 y1 y2 y3 y4
   unfold zj6.l0
   repeat' first
   | (with_reducible first|exact ih0 _ _ _ _ _|exact zj4.mono _ _|exact zj5.mono _ _ _|exact LeO.refl _|exact LeO.none _|refine LeO.ite ?_ ?_|refine LeO.bind ?_ (fun _=>?_))
   | exact ih0 _ _ _ _ _
   | exact zj4.mono _ _
   | exact zj5.mono _ _ _
   | exact LeO.none _
   | refine LeO.ite ?_ ?_
   | refine LeO.bind ?_ (fun _=>?_)
theorem zj6.mono:∀ a0 a1 a2 a3 k,LeO (zj6.f k a0 a1 a2 a3) (zj6.f (k+1) a0 a1 a2 a3):=by
 intro a0 a1 a2 a3 k
 have ih0:=zj6.mono_l k
 unfold zj6.f
 repeat' first
   | (with_reducible first|exact ih0 _ _ _ _ _|exact zj4.mono _ _|exact zj5.mono _ _ _|exact LeO.refl _|exact LeO.none _|refine LeO.ite ?_ ?_|refine LeO.bind ?_ (fun _=>?_))
   | exact ih0 _ _ _ _ _
   | exact zj4.mono _ _
   | exact zj5.mono _ _ _
   | exact LeO.none _
   | refine LeO.ite ?_ ?_
   | refine LeO.bind ?_ (fun _=>?_)
set_option maxHeartbeats 8000000 in
set_option maxRecDepth 100000 in
theorem zj6.calls (k:Nat) (a0:Int) (a1:Int) (A2:Option Addr) (c2:Nat) (l2:List (S38)) (A3:Option Addr) (c3:Nat) (l3:List (List Int)) (r1:List Int) (r2:List Int) (w:World) (hr2:Kd.C k38 w A2 l2.length l2) (hc2:l2.length≤c2) (hr3:Kd.C (Kd.slice 3 (Kd.int .i64)) w A3 l3.length l3) (hc3:l3.length≤c3) (hL:LD w) (h:zj6.f k a0 a1 l2 l3=some (r1,r2)) :
  Calls Tryd.prog 58 #[.int .i64 a0,.int .i64 a1,.slice A2 l2.length c2,.slice A3 l3.length c3] w fun e w' => ∃ v0_ v1_:Value,e = .returned (.agg #[v0_,v1_])∧Kd.R (Kd.int .u8) 5 w' w.heap.size (fun k_=>some k_≠(v1_:Value).ownBlock) v0_ r1∧Kd.R (Kd.int .u8) 5 w' w.heap.size (fun k_=>some k_≠(v0_:Value).ownBlock) v1_ r2∧Below w.heap.size w w':=by
 have hu32:=Tryd.underlying32
 have HLD:=zqd.mk hL
 clear hL
 have HR2:=zqd.mk hr2
 have HC2:=zqd.mk hc2
 clear hr2 hc2
 have HR3:=zqd.mk hr3
 have HC3:=zqd.mk hc3
 clear hr3 hc3
 have HB:=zqd.mk (Below.refl w.heap.size w)
 have H:((zx4.f a0).bind fun bt169=>((zx4.f a1).bind fun bt172=>(zj6.l0 k l2 (([(⟨bt169.1,bt169.2.1,bt169.2.2⟩:S38),(⟨bt172.1,bt172.2.1,bt172.2.2⟩:S38)]:List (S38))) l3 (l3.length:Int) 0)))=some (r1,r2):=h
 clear h
 replace H:=Option.bind_eq_some_iff.mp H
 obtain ⟨⟨t169,t170,t171⟩,A50,H⟩:=H
 replace H:((zx4.f a1).bind fun bt172=>(zj6.l0 k l2 (([(⟨t169,t170,t171⟩:S38),(⟨bt172.1,bt172.2.1,bt172.2.2⟩:S38)]:List (S38))) l3 (l3.length:Int) 0))=some (r1,r2):=H
 have A5:=zqd.mk A50
 clear A50
 replace H:=Option.bind_eq_some_iff.mp H
 obtain ⟨⟨t172,t173,t174⟩,A60,H⟩:=H
 replace H:(zj6.l0 k l2 (([(⟨t169,t170,t171⟩:S38),(⟨t172,t173,t174⟩:S38)]:List (S38))) l3 (l3.length:Int) 0)=some (r1,r2):=H
 have A6:=zqd.mk A60
 clear A60
 obtain ⟨y175,hy175⟩:∃ y_:List (S38),y_=(([(⟨t169,t170,t171⟩:S38),(⟨t172,t173,t174⟩:S38)]:List (S38))):=⟨_,rfl⟩
 replace H:(zj6.l0 k l2 y175 l3 (l3.length:Int) 0)=some (r1,r2):=by first|(rw [hy175];with_reducible exact H)|(have H2_:=(Option.bind_some _ _).symm.trans H;rw [hy175];with_reducible exact H2_)|(have H2_:=(Option.bind_some _ _).symm.trans H;with_reducible exact H2_)|with_reducible exact H|(rw [hy175];exact H)|exact H
 have Ny175:=zqd.mk hy175
 clear hy175
 have H':=zqd.mk H
 clear H
 go_enter Tryd.func58,Tryd.ntmps58
 go_wp2_with (first|((with_reducible refine zqx (N:=8) rfl ?_);refine zqt ?hg (N:=8) ?hd (cs:=#[.slice none 0 0,.slice none 0 0]) (t:=32) ?hr ?_;(case hd=>rfl);(case hg=>rfl);(case hr=>first|(go_simp;done)|(go_simp;rfl));intro gb168 hg w7 hbox hb;have n0_:=zqd.mk (zqn (by repeat(first|(with_reducible first|exact HB.out|apply zqb|apply zqa|apply zqc)|exact HB.out)) hb);have n1_:=zqd.mk (hbox);have n2_:=zqd.mk ((by rw [hg];exact(zqk (by repeat(first|(with_reducible first|exact HB.out|apply zqb|apply zqa|apply zqc)|exact HB.out))):w.heap.size≤gb168));have n3_:=zqd.mk ((by rw [hg];exact(zqk (by repeat(first|(with_reducible first|exact HB.out|apply zqb|apply zqa|apply zqc)|exact HB.out))):w.heap.size≤gb168));clear HB;have HB:=n0_;have BK168:=n1_;have GW168:=n2_;have GE168:=n3_;clear n0_ n1_ n2_ n3_ hb hbox hg)|((with_reducible refine zqv (f:=97) rfl ?_);refine zq8 (some 15) rfl rfl Tryd.func97 (by kernel_rfl) rfl #[.int .i64 a0] rfl (by(try simp only [List.map_toArray,List.map_cons,List.map_nil]);first|done|rfl|(simp only [List.length_drop,List.length_take];rfl)) ?_;(with_reducible refine(zx4.calls a0 t169 t170 t171 _ A5.out).mono ?_);rintro e w8 ⟨rfl,hb⟩;refine⟨_,rfl,?_⟩;have n0_:=zqd.mk (zqr (g:=gb168) (o:=.cells #[.slice none 0 0,.slice none 0 0] 32 (0,0)) (by(with_reducible repeat(first|refine zqg ?_ _|refine zqj ?_|refine zqh ?_ _));exact BK168.out) hb);have n1_:=zqd.mk (zqn (by repeat(first|(with_reducible first|exact HB.out|apply zqb|apply zqa|apply zqc|refine zqi ?_ GE168.out)|exact HB.out)) hb);clear BK168 HB;have BK168:=n0_;have HB:=n1_;clear n0_ n1_;(try clear hb);(try clear hb2);(try clear hk);(try clear hi))|((with_reducible refine zqv (f:=97) rfl ?_);refine zq8 (some 17) rfl rfl Tryd.func97 (by kernel_rfl) rfl #[.int .i64 a1] rfl (by(try simp only [List.map_toArray,List.map_cons,List.map_nil]);first|done|rfl|(simp only [List.length_drop,List.length_take];rfl)) ?_;(with_reducible refine(zx4.calls a1 t172 t173 t174 _ A6.out).mono ?_);rintro e w9 ⟨rfl,hb⟩;refine⟨_,rfl,?_⟩;have n0_:=zqd.mk (zqr (g:=gb168) (o:=.cells #[.slice none 0 0,.slice none 0 0] 32 (0,0)) (by(with_reducible repeat(first|refine zqg ?_ _|refine zqj ?_|refine zqh ?_ _));exact BK168.out) hb);have n1_:=zqd.mk (zqn (by repeat(first|(with_reducible first|exact HB.out|apply zqb|apply zqa|apply zqc|refine zqi ?_ GE168.out)|exact HB.out)) hb);clear BK168 HB;have BK168:=n0_;have HB:=n1_;clear n0_ n1_;(try clear hb);(try clear hb2);(try clear hk);(try clear hi))|((with_reducible refine zqx (N:=18) rfl ?_);refine Kd.R_lit k38 _ 38 ?hg (N:=18) ?hd (xs:=([(⟨t169,t170,t171⟩:S38),(⟨t172,t173,t174⟩:S38)]:List (S38))) (inner := [.int .i64 t169,.int .i64 t170,.string t171,.int .i64 t172,.int .i64 t173,.string t174]) (ok:=fun _=>True) (okp:=fun _=>True) ?hr ?hp (fun _ hk=>hk) trivial (Below.refl _ _) (Nat.le_refl _) (by simp) ?_;(case hd=>rfl);(case hg=>rfl);(case hr=>first|(go_simp;done)|(go_simp;rfl));(case hp=>exact(Reps.c3 (show Kd.M k38 _ _ _ (⟨t169,t170,t171⟩:S38) [.int .i64 t169,.int .i64 t170,.string t171] from (k38_mkM _ _ _ (⟨t169,t170,t171⟩:S38) )) (Reps.c3 (show Kd.M k38 _ _ _ (⟨t172,t173,t174⟩:S38) [.int .i64 t172,.int .i64 t173,.string t174] from (k38_mkM _ _ _ (⟨t172,t173,t174⟩:S38) )) (Reps.none _ _))));intro v176 w10 ho11 hb hg_ hnew_;clear hg_ hnew_;(first|rw [← Ny175.out] at ho11|(simp only [Int.reduceToNat] at ho11;rw [← Ny175.out] at ho11));have n0_:=zqd.mk (Kd.zko ho11 (zqk (by repeat(first|(with_reducible first|exact HB.out|apply zqb|apply zqa|apply zqc|refine zqi ?_ GE168.out)|exact HB.out))));have n1_:=zqd.mk (zqr (g:=gb168) (o:=.cells #[.slice none 0 0,.slice none 0 0] 32 (0,0)) (by(with_reducible repeat(first|refine zqg ?_ _|refine zqj ?_|refine zqh ?_ _));exact BK168.out) hb);have n2_:=zqd.mk (zqn (by repeat(first|(with_reducible first|exact HB.out|apply zqb|apply zqa|apply zqc|refine zqi ?_ GE168.out)|exact HB.out)) hb);clear BK168 HB;have HO177:=n0_;have BK168:=n1_;have HB:=n2_;clear n0_ n1_ n2_ hb ho11))
 go_loopg [9,21] k (fun kq v9 v21 w' => ∃ (x9_1:List (S38)) (x21_1:Int),v21 = .int .i64 x21_1∧zqd (zj6.l0 kq l2 x9_1 l3 (l3.length:Int) x21_1=some (r1,r2))∧zqd (kq≤k)∧zqd (Kd.R k38 38 w' w.heap.size (fun _=>True) v9 x9_1)∧zqd (w'.heap[gb168]? = some (.cells #[(.slice none 0 0),(.slice none 0 0)] 32 (0,0)))∧zqd (Below w.heap.size w w'))
 case atStart=>exact⟨(y175),(0),(by first|rfl|(simp;done)|(simp [*];done)|(generalize ByteArray.toList _=q_;cases q_ <;> rfl)),H',⟨Nat.le_refl _⟩,⟨by(with_reducible repeat(first|apply Kd.zq4|apply Kd.zq5|apply Kd.zq7));exact HO177.out⟩,⟨by(with_reducible repeat(first|refine zqg ?_ _|refine zqj ?_|refine zqh ?_ _));exact BK168.out⟩,⟨by repeat(first|(with_reducible first|exact HB.out|apply zqb|apply zqa|apply zqc|refine zqi ?_ GE168.out)|exact HB.out)⟩⟩
 case round=>
  clear H'
  try clear c2
  try clear p2
  try clear c3
  try clear c5
  try clear c9
  obtain ⟨x9_1,x21_1,rfl,HA,HK1,HO_9,BK168,HB⟩:=hrel
  cases gk with
  | zero=>exact absurd HA.out (by simp [zj6.l0])
  | succ k1=>
   have H:=HA.out
   clear HA
   simp only [zj6.l0] at H
   by_cases c12:x21_1<(l3.length:Int)
   ·rw [if_pos c12] at H
    have c12b0:decide (x21_1<(l3.length:Int))=true:=decide_eq_true c12
    clear c12
    by_cases c13:0≤x21_1
    ·rw [if_pos c13] at H
     have c13b0:decide (0≤x21_1)=true:=decide_eq_true c13
     clear c13
     by_cases c14:x21_1<(l3.length:Int)
     ·rw [if_pos c14] at H
      have c14b0:decide (x21_1<(l3.length:Int))=true:=decide_eq_true c14
      clear c14
      replace H:=Option.bind_eq_some_iff.mp H
      obtain ⟨t179,A150,H⟩:=H
      replace H:(if x9_1.length+t179.length<4398046511104 then(zj6.l0 k1 l2 (x9_1 ++ t179) l3 (l3.length:Int) (wrap64 (x21_1+1))) else (none))=some (r1,r2):=H
      have A15:=zqd.mk A150
      clear A150
      by_cases c16:x9_1.length+t179.length<4398046511104
      ·rw [if_pos c16] at H
       have LMc16:=zqd.mk c16
       clear c16
       obtain ⟨y182,hy182⟩:∃ y_:List (S38),y_=(x9_1 ++ t179):=⟨_,rfl⟩
       replace H:(zj6.l0 k1 l2 y182 l3 (l3.length:Int) (wrap64 (x21_1+1)))=some (r1,r2):=by first|(rw [hy182];with_reducible exact H)|(have H2_:=(Option.bind_some _ _).symm.trans H;rw [hy182];with_reducible exact H2_)|(have H2_:=(Option.bind_some _ _).symm.trans H;with_reducible exact H2_)|with_reducible exact H|(rw [hy182];exact H)|exact H
       have Ny182:=zqd.mk hy182
       clear hy182
       have H':=zqd.mk H
       clear H
       have p178:0≤(x21_1:Int):=of_decide_eq_true (by first|(with_reducible assumption)|assumption)
       have q178:x21_1<(l3.length:Int):=of_decide_eq_true (by first|(with_reducible assumption)|assumption)
       obtain ⟨ad178,A178_0,c178_0,e178,hx178_0,hl178_0,hi178_0⟩:=at_L4 HR3.out x21_1 p178 q178
       cases e178
       replace hx178_0:=(HB.out.cell (World.block_lt_of_cell? w _ hx178_0)).trans hx178_0
       have HR178_0:=zqd.mk hi178_0
       have HC178_0:=zqd.mk hl178_0
       clear hi178_0 hl178_0
       replace p178:=eq_true p178
       replace q178:=eq_true q178
       go_wp2_with (first|((with_reducible refine zqv (f:=98) rfl ?_);refine zq8 (some 28) rfl rfl Tryd.func98 (by kernel_rfl) rfl #[.slice A2 l2.length c2,.slice A178_0 (rd_L4 l3 x21_1).length c178_0] rfl (by(try simp only [List.map_toArray,List.map_cons,List.map_nil]);first|done|rfl|(simp only [List.length_drop,List.length_take];rfl)) ?_;(with_reducible refine(zj5.calls k1 _ _ l2 _ _ (rd_L4 l3 x21_1) t179 _ ?side1 ?side2 ?side3 ?side4 A15.out).mono ?_);(case side1=>repeat(first|exact(Kd.zq3 HR2.out HB.out)|(with_reducible refine Kd.zqw ?_ _)|(with_reducible refine Kd.zqy ?_ _)|(with_reducible refine Kd.zq2 ?_)));(case side2=>exact HC2.out);(case side3=>repeat(first|exact(Kd.zq3 HR178_0.out HB.out)|(with_reducible refine Kd.zqw ?_ _)|(with_reducible refine Kd.zqy ?_ _)|(with_reducible refine Kd.zq2 ?_)));(case side4=>exact HC178_0.out);rintro e w17 ⟨v180,rfl,ho0,hb⟩;refine⟨_,rfl,?_⟩;have n0_:=zqd.mk (Kd.R_elder' (by(with_reducible repeat(first|apply Kd.zq4|apply Kd.zq5|apply Kd.zq7));exact HO_9.out) (Kd.R_base ho0) hb);have n1_:=zqd.mk (Kd.zko (Kd.R_new' ho0 (Kd.R_lt (by(with_reducible repeat(first|apply Kd.zq4|apply Kd.zq5|apply Kd.zq7));exact HO_9.out))) (zqk (by repeat(first|(with_reducible first|exact HB.out|apply zqb|apply zqa|apply zqc|refine zqi ?_ GE168.out)|exact HB.out))));have n2_:=zqd.mk (zqr (g:=gb168) (o:=.cells #[.slice none 0 0,.slice none 0 0] 32 (0,0)) (by(with_reducible repeat(first|refine zqg ?_ _|refine zqj ?_|refine zqh ?_ _));exact BK168.out) hb);have n3_:=zqd.mk (zqn (by repeat(first|(with_reducible first|exact HB.out|apply zqb|apply zqa|apply zqc|refine zqi ?_ GE168.out)|exact HB.out)) hb);clear HO_9 BK168 HB;have HO_9:=n0_;have HO181:=n1_;have BK168:=n2_;have HB:=n3_;clear n0_ n1_ n2_ n3_;(try clear hb);(try clear hb2);(try clear hk);(try clear hi);(try clear ho0);obtain ⟨Ao19,co19,eo19⟩:=Kd.zx7 HO181.out;subst eo19)|((with_reducible refine zkj (b:=.append) (xs:=#[.tmp 25,.tmp 28]) rfl ?_);at_builtin;refine Kd.R_append_rows k38 (w0:=w) w.heap.size rfl (.tmp 25) (.tmp 28) 23 38 (.agg #[(.int .i64 0),(.int .i64 0),(.string ⟨#[]⟩)]) 32 rfl Tryd.underlying23 info38 rfl (by decide) (by omega) u9 x9_1 t179 _ _ _ (fun k_=>some k_≠(.slice Ao19 t179.length co19:Value).ownBlock) (fun _=>False) rfl rfl ?aO ?aR (fun _ _ h=>h) (fun _ h=>h.elim) ?aF ?aB ?aS ?aL ?_;(case aR=>repeat(first|exact(Kd.zxu HO181.out).2.2|(with_reducible refine Kd.zqw ?_ _)|(with_reducible refine Kd.zqy ?_ _)|(with_reducible refine Kd.zq2 ?_)));(case aB=>exact(by repeat(first|(with_reducible first|exact HB.out|apply zqb|apply zqa|apply zqc|refine zqi ?_ GE168.out)|exact HB.out)));(case aF=>exact(fun k_ hk=>Kd.fresh' (Kd.R_lt (by(with_reducible repeat(first|apply Kd.zq4|apply Kd.zq5|apply Kd.zq7));exact HO181.out)) k_ hk));(case aO=>exact(by(with_reducible repeat(first|apply Kd.zq4|apply Kd.zq5|apply Kd.zq7));exact Kd.zja HO_9.out (fun _ hk=>hk.2)));(case aS=>exact(zqk (by repeat(first|(with_reducible first|exact HB.out|apply zqb|apply zqa|apply zqc|refine zqi ?_ GE168.out)|exact HB.out))));(case aL=>have:=LMc16.out;omega);intro v183 w18 ho hb hg hat;rw [← Ny182.out] at ho;have n0_:=zqd.mk (blk_grown (g:=gb168) (o:=.cells #[.slice none 0 0,.slice none 0 0] 32 (0,0)) (by(with_reducible repeat(first|refine zqg ?_ _|refine zqj ?_|refine zqh ?_ _));exact BK168.out) hg (Kd.R_ne HO_9.out BK168.out (by decide)));have n1_:=zqd.mk (Kd.R_after (ok:=(fun _=>True)) (by(with_reducible repeat(first|apply Kd.zq4|apply Kd.zq5|apply Kd.zq7));exact HO181.out) hg hat);have n2_:=zqd.mk (hb);have n3_:=zqd.mk (ho);clear BK168 HO181 HB HO_9;have BK168:=n0_;have HO181:=n1_;have HB:=n2_;have HO184:=n3_;clear n0_ n1_ n2_ n3_ ho hb hg hat))
       go_roundg k1
       case measure=>have:=HK1.out;omega
       case rel=>exact⟨(y182),(wrap64 (x21_1+1)),(by first|rfl|(simp;done)|(simp [*];done)|(generalize ByteArray.toList _=q_;cases q_ <;> rfl)),H',⟨by have:=HK1.out;omega⟩,⟨by(with_reducible repeat(first|apply Kd.zq4|apply Kd.zq5|apply Kd.zq7));exact Kd.zja HO184.out (fun _ hk=>trivial)⟩,⟨by(with_reducible repeat(first|refine zqg ?_ _|refine zqj ?_|refine zqh ?_ _));exact BK168.out⟩,⟨by repeat(first|(with_reducible first|exact HB.out|apply zqb|apply zqa|apply zqc|refine zqi ?_ GE168.out)|exact HB.out)⟩⟩
      ·rw [if_neg c16] at H
       exact absurd H (by simp)
     ·rw [if_neg c14] at H
      exact absurd H (by simp)
    ·rw [if_neg c13] at H
     exact absurd H (by simp)
   ·rw [if_neg c12] at H
    have c12b0:decide (x21_1<(l3.length:Int))=false:=decide_eq_false c12
    clear c12
    replace H:=Option.bind_eq_some_iff.mp H
    obtain ⟨⟨t185,t186⟩,A200,H⟩:=H
    replace H:(some (t185,([]:List Int)))=some (r1,r2):=H
    have A20:=zqd.mk A200
    clear A200
    simp only [Option.some.injEq,Prod.mk.injEq] at H
    obtain ⟨rfl,rfl⟩:=H
    obtain ⟨Ao21,co21,eo21⟩:=Kd.zx7 HO_9.out
    subst eo21
    go_wp2_with (first|((with_reducible refine zqv (f:=59) rfl ?_);refine zq8 (some 33) rfl rfl Tryd.func59 (by kernel_rfl) rfl #[.slice Ao21 x9_1.length co21] rfl (by(try simp only [List.map_toArray,List.map_cons,List.map_nil]);first|done|rfl|(simp only [List.length_drop,List.length_take];rfl)) ?_;(with_reducible refine(zj4.calls k1 _ _ x9_1 t185 t186 _ ?side1 ?side2 ?side3 A20.out).mono ?_);(case side1=>repeat(first|exact(Kd.zxu HO_9.out).2.2|(with_reducible refine Kd.zqw ?_ _)|(with_reducible refine Kd.zqy ?_ _)|(with_reducible refine Kd.zq2 ?_)));(case side2=>exact(Kd.zxu HO_9.out).2.1);(case side3=>exact LD.below HLD.out (by first|(with_reducible exact Below.refl _ _)|((repeat(first|(with_reducible exact Below.refl _ _)|(with_reducible apply zqb)|(with_reducible apply zqa)|(with_reducible apply zqc)));done)|exact(by repeat(first|(with_reducible first|exact HB.out|apply zqb|apply zqa|apply zqc|refine zqi ?_ GE168.out)|exact HB.out))));rintro e w22 ⟨v187,rfl,ho0,hb⟩;refine⟨_,rfl,?_⟩;have n0_:=zqd.mk (Kd.zxy (by(with_reducible repeat(first|apply Kd.zq4|apply Kd.zq5|apply Kd.zq7));exact HO_9.out) hb);have n1_:=zqd.mk (Kd.zko ho0 (zqk (by repeat(first|(with_reducible first|exact HB.out|apply zqb|apply zqa|apply zqc|refine zqi ?_ GE168.out)|exact HB.out))));have n2_:=zqd.mk (zqr (g:=gb168) (o:=.cells #[.slice none 0 0,.slice none 0 0] 32 (0,0)) (by(with_reducible repeat(first|refine zqg ?_ _|refine zqj ?_|refine zqh ?_ _));exact BK168.out) hb);have n3_:=zqd.mk (zqn (by repeat(first|(with_reducible first|exact HB.out|apply zqb|apply zqa|apply zqc|refine zqi ?_ GE168.out)|exact HB.out)) hb);clear HO_9 BK168 HB;have HO_9:=n0_;have HO188:=n1_;have BK168:=n2_;have HB:=n3_;clear n0_ n1_ n2_ n3_;(try clear hb);(try clear hb2);(try clear hk);(try clear hi);(try clear ho0);obtain ⟨Ao23,co23,eo23⟩:=Kd.zx7 HO188.out;subst eo23;have hcz24_0:w22.cell? ⟨gb168,0,none⟩=some (.slice none 0 0):=(zqf BK168.out 0).trans rfl;have hcz24_1:w22.cell? ⟨gb168,1,none⟩=some (.slice none 0 0):=(zqf BK168.out 1).trans rfl;have hfz24_0:=zqe BK168.out 0;have hfz24_1:=zqe BK168.out 1))
    refine bodyPost_ret (results_cell_row rfl _ _ gb168 32 #[.slice Ao23 t185.length co23,.slice none 0 0] (0,0) _ rfl (by(with_reducible repeat(first|refine zqg ?_ _|refine zqj ?_|refine zqh ?_ _));refine zqu (cs:=#[.slice Ao23 t185.length co23,.slice none 0 0]) ?_ 1 _ rfl;(with_reducible repeat(first|refine zqg ?_ _|refine zqj ?_|refine zqh ?_ _));refine zqu (cs:=#[.slice none 0 0,.slice none 0 0]) ?_ 0 _ rfl;(with_reducible repeat(first|refine zqg ?_ _|refine zqj ?_|refine zqh ?_ _));exact BK168.out) Tryd.underlying32 rfl (by kernel_rfl)) rfl ?_
    exact⟨_,_,by first|rfl|(simp [zqm,zql] <;> rfl)|(simp [*,zqm,zql] <;> rfl),by(with_reducible repeat(first|apply Kd.zq4|apply Kd.zq5|apply Kd.zq7));exact Kd.zja (Kd.R_far (p:=⟨gb168,1,none⟩) (Kd.R_far (p:=⟨gb168,0,none⟩) (Kd.zki HO188.out BK168.out (by decide)) (fun _ hk=>hk.2) (.slice Ao23 t185.length co23)) (fun _ hk=>hk.2) (.slice none 0 0)) (fun _ hk=>(by simp [Value.ownBlock])),by first|exact Kd.R_nil _ _ _ _ _|exact Kd.N_nil _ _ _ _ _|exact Kd.V_nil _ _ _ _ _|exact Kd.Q_nil _ _ _ _ _|exact Kd.S_nil _ _ _ _ _,by repeat(first|(with_reducible first|exact HB.out|apply zqb|apply zqa|apply zqc|refine zqi ?_ GE168.out)|exact HB.out)⟩

/-! ### zjw: function 30, by hand -/
-- HAND rounds=1 making=1 laid=1 imports=Derived.Laws.Cover3,Derived.Deep.Heap
-- INFO 32
/-- The entries of the indexes, from one on. -/
def zjw.run (k:Nat) (a:Int) (row:List S38) (key:List Int):List S96→Nat→List S32→Option (List S32)
 | [],_,acc=>some acc
 | x :: r,i,acc=>(zj6.f k a (i+1:Nat) row [x.f1,key]).bind fun e=>if acc.length<100000 then zjw.run k a row key r (i+1) (acc ++ [⟨e.1,e.2⟩]) else none
def zjw.f (k:Nat) (_a0_0:ByteArray) (_l0_1:List S90) (l0_2:List Int) (l0_3:List S96) (a1:Int) (l2:List S38):Option (List S32):=
 if 1000000<l0_3.length then none else (zj6.f k a1 0 l2 [l0_2]).bind fun e=>(zj4.f k l2).bind fun v=>zjw.run k a1 l2 l0_2 l0_3 0 [⟨e.1,v.1⟩]
theorem zjw.mono_run (a:Int) (row:List S38) (key:List Int):∀ (l:List S96) (i:Nat) (acc:List S32) (k:Nat),LeO (zjw.run k a row key l i acc) (zjw.run (k+1) a row key l i acc)
 | [],_,_,_=>LeO.refl _
 | x :: r,i,acc,k=>by
  unfold zjw.run
  exact LeO.bind (zj6.mono _ _ _ _ _) (fun e=>LeO.ite (zjw.mono_run a row key r _ _ k) (LeO.refl _))
theorem zjw.mono:∀ a0 a1 a2 a3 a4 a5 k,LeO (zjw.f k a0 a1 a2 a3 a4 a5) (zjw.f (k+1) a0 a1 a2 a3 a4 a5):=by
 intro a0 a1 a2 a3 a4 a5 k
 unfold zjw.f
 exact LeO.ite (LeO.refl _) (LeO.bind (zj6.mono _ _ _ _ _) (fun e=>LeO.bind (zj4.mono _ _) (fun v=>zjw.mono_run _ _ _ _ _ _ k)))
/-- A literal of rows. -/
theorem zjw.lits {w:World} {g t:Nat} {fr:Nat × Nat} {cs:List Value} {ls:List (List Int)} (h:w.heap[g]? = some (.cells cs.toArray t fr)) (hl:ls.length=cs.length) (hm:ls.length≤9223372036854775807) (hr:∀ (j:Nat) (l:List Int),ls[j]? = some l → ∃ A c,cs[j]? = some (.slice A l.length c)∧l.length≤c∧Kd.C (Kd.int .i64) w A l.length l) :
  Kd.C (Kd.slice 3 (Kd.int .i64)) w (some ⟨g,0,none⟩) ls.length ls:=by
 refine⟨rfl,hm,fun _=>⟨_,rfl,fun j p hj=>?_⟩⟩
 obtain ⟨A,c,h1,h2,h3⟩:=hr j p hj
 refine⟨[.slice A p.length c],rfl,⟨A,c,rfl,h2,h3⟩,fun i u hu=>?_⟩
 obtain rfl:i=0:=by
  rcases i with _|i
  ·rfl
  ·simp at hu
 obtain rfl:Value.slice A p.length c=u:=by simpa using hu
 rw [show(⟨g,0,none⟩:Addr).add (j * (Kd.slice 3 (Kd.int .i64)).sz+0)=⟨g,j,none⟩ from by rw [add_plain];show(⟨_,j * 1+0,none⟩:Addr)=_;simp]
 simp [World.cell?,h,h1]
theorem zjw.ne_ {k n:Nat} (hk:k<n) (e:some k=(Value.slice (some ⟨n,0,none⟩) 1 1).ownBlock):False:=by
 have e2:k=n:=by simpa [Value.ownBlock] using e
 omega
/-- A literal of one entry, a row of the call's own. -/
theorem zjw.one_ {w:World} {base:Nat} {x:S32} {v0 v1:Value} (hb:base≤w.heap.size) (h0:Kd.R (Kd.int .u8) 5 w base (fun k=>base≤k) v0 x.f0) (h1:Kd.R (Kd.int .u8) 5 w base (fun k=>base≤k) v1 x.f1) :
  Kd.S k32 32 (w.alloc (.cells #[v0,v1] 32)) base (fun k=>base≤k) (.slice (some ⟨w.heap.size,0,none⟩) 1 1) [x]:=by
 have hM:k32.M w base (fun k=>base≤k∧k<w.heap.size) x [v0,v1]:=k32.M_mono (fun k hk=>⟨hk.1,hk.2.2.1⟩) (k32.M_bound (k32_mkM w base _ x h0 h1))
 have hM2:k32.M (w.alloc (.cells #[v0,v1] 32)) base (fun k=>base≤k∧some k≠(Value.slice (some ⟨w.heap.size,0,none⟩) 1 1).ownBlock) x [v0,v1]:=k32.M_mono (fun k hk=>⟨hk.1,fun e=>zjw.ne_ hk.2 e⟩) (Kd.M_below hM (zqb (Below.refl _ _) _))
 refine⟨fun _=>0,fun k hk=>?_,?_⟩
 ·have e2:w.heap.size=k:=by simpa [Value.ownBlock] using hk
  omega
 ·refine zx3.lit (R:=(Kd.tag (fun _=>0) k32).M _ base _) (ps := [(x,0)]) (inner := [v0,v1]) w base ?_ hb (by simp)
  refine⟨rfl,fun j p hj=>?_⟩
  rcases j with _|j
  ·obtain rfl:(x,0)=p:=by simpa using hj
   exact k32.M_mono (fun k hk=>⟨hk,rfl⟩) hM2
  ·simp at hj
theorem zjw.at_ {w:World} {A:Option Addr} {l:List S96} (h:Kd.C k96 w A l.length l) (h0:0<l.length):∃ b o,A=some ⟨b,o,none⟩ ∧ ∀ (i:Nat) (hi:i<l.length),∃ A1 c1,w.cell? ⟨b,o+i * 2,none⟩=some (.string l[i].f0)∧w.cell? ⟨b,o+i * 2+1,none⟩=some (.slice A1 l[i].f1.length c1)∧l[i].f1.length≤c1∧Kd.C (Kd.int .i64) w A1 l[i].f1.length l[i].f1:=by
 obtain ⟨ad,A1,c1,rfl,g0,_⟩:=at_T96 h 0 (by omega) (by omega)
 have hs:ad.spot=none:=by
  cases hsp:ad.spot with
  | none=>rfl
  | some s=>
   exfalso
   rw [show ad.add ((0:Int).toNat * 2)=ad from by simp [Addr.add]] at g0
   unfold World.cell? at g0
   split at g0
   ·rw [hsp] at g0
    simp at g0
   ·cases g0
 obtain ⟨b,o,sp⟩:=ad
 dsimp only at hs
 subst hs
 refine⟨b,o,rfl,fun i hi=>?_⟩
 obtain ⟨ad,A1,c1,e,g0,g1,l1,r1⟩:=at_T96 h (i:Int) (by omega) (by omega)
 cases e
 have ee:zq0 l (i:Int)=l[i]:=by simp [zq0,List.getD_eq_getElem?_getD,hi]
 have ha:(⟨b,o,none⟩:Addr).add ((i:Int).toNat * 2)=⟨b,o+i * 2,none⟩:=by rw [Int.toNat_natCast];unfold Addr.add;split <;> simp_all
 rw [ee] at g0 g1 l1 r1
 rw [ha] at g0 g1
 exact⟨A1,c1,g0,g1,l1,r1⟩
theorem zjw.at_new (w:World) (o1:Obj):(w.alloc o1).heap[w.heap.size]? = some o1:=heap_alloc_new w o1
theorem zjw.own1 {α:Type} {d:Kd α} {e base b0:Nat} {ok:Nat→Prop} {w:World} {v:Value} {xs:List α} (h:Kd.R d e w base ok v xs) (hb:b0≤base):Kd.R d e w b0 (fun k=>base≤k) v xs:=Kd.zko (Kd.zja (Kd.zx9 h) (fun _ hk=>hk.2.1)) hb
/-- The entries so far. -/
def zjw.EP (w W:World) (o:Obj) (v:Value) (acc:List S32):Prop:=Below w.heap.size w W∧W.heap[w.heap.size]? = some o∧Kd.S k32 32 W w.heap.size (fun k=>w.heap.size<k) v acc
theorem zjw.far1 {w1 w2:World} {v:Value} {xs:List Int} {b:Nat} (h:Kd.R (Kd.int .u8) 5 w1 b (fun k=>b≤k) v xs) {o:Obj} (hb:Below (w1.alloc o).heap.size (w1.alloc o) w2) (u:Value):Kd.R (Kd.int .u8) 5 (w2.setCell ⟨w1.heap.size,1,none⟩ u) b (fun k=>b≤k) v xs:=by
 have h1:=Kd.zxy (Kd.zq4 (Kd.zja (Kd.zx9 h) (ok':=fun k=>b≤k∧k<w1.heap.size) (fun k hk=>⟨hk.1,hk.2.2.1⟩)) o) hb
 exact Kd.zja (Kd.R_far (p:=⟨w1.heap.size,1,none⟩) h1 (fun k hk=>Nat.ne_of_lt hk.2) u) (fun k hk=>hk.1)
set_option maxRecDepth 100000 in
set_option maxHeartbeats 8000000 in
theorem zjw.calls (k:Nat) (a0:ByteArray) (A1:Option Addr) (c1:Nat) (l1:List S90) (A2:Option Addr) (c2:Nat) (l2:List Int) (A3:Option Addr) (c3:Nat) (l3:List S96) (a1:Int) (A4:Option Addr) (c4:Nat) (l4:List S38) (r:List S32) (w:World)
  (hr1:Kd.C k90 w A1 l1.length l1) (hc1:l1.length≤c1) (hr2:Kd.C (Kd.int .i64) w A2 l2.length l2) (hc2:l2.length≤c2) (hr3:Kd.C k96 w A3 l3.length l3) (hc3:l3.length≤c3) (hr4:Kd.C k38 w A4 l4.length l4) (hc4:l4.length≤c4) (hL:LD w) (h:zjw.f k a0 l1 l2 l3 a1 l4=some r) :
  Calls Tryd.prog 30 #[.agg #[.string a0,.slice A1 l1.length c1,.slice A2 l2.length c2,.slice A3 l3.length c3],.int .i64 a1,.slice A4 l4.length c4] w fun e w' => ∃ v0_:Value,e = .returned (v0_)∧Kd.S k32 32 w' w.heap.size (fun _=>True) v0_ r∧Below w.heap.size w w':=by
 unfold zjw.f at h
 by_cases hm:1000000<l3.length
 ·rw [if_pos hm] at h;cases h
 rw [if_neg hm] at h
 obtain ⟨⟨e0,e1⟩,he,h⟩:=Option.bind_eq_some_iff.1 h
 obtain ⟨⟨kv,kc⟩,hk,h⟩:=Option.bind_eq_some_iff.1 h
 -- one entry, of a literal of lists at block g
 have HE:zqd (∀ (W:World) (i:Int) (g n:Nat) (ls:List (List Int)) (e0 e1:List Int),Below w.heap.size w W→Kd.C (Kd.slice 3 (Kd.int .i64)) W (some ⟨g,0,none⟩) ls.length ls→ls.length=n→zj6.f k a1 i l4 ls=some (e0,e1) →
   Calls Tryd.prog 58 #[.int .i64 a1,.int .i64 i,.slice A4 l4.length c4,.slice (some ⟨g,0,none⟩) n n] W fun e w' => ∃ v0_ v1_:Value,e = .returned (.agg #[v0_,v1_])∧Kd.R (Kd.int .u8) 5 w' W.heap.size (fun k_=>some k_≠(v1_:Value).ownBlock) v0_ e0∧Kd.R (Kd.int .u8) 5 w' W.heap.size (fun k_=>some k_≠(v0_:Value).ownBlock) v1_ e1∧Below W.heap.size W w'):=
  ⟨fun W i g n ls e0 e1 hb hc hn he=>by subst hn;exact zj6.calls k a1 i A4 c4 l4 (some ⟨g,0,none⟩) ls.length ls e0 e1 W (Kd.zq3 hr4 hb) hc4 hc (Nat.le_refl _) (LD.below hL hb) he⟩
 have HK:zqd (∀ W:World,Below w.heap.size w W→Calls Tryd.prog 59 #[.slice A4 l4.length c4] W fun e w' => ∃ v0_:Value,e = .returned (.tuple #[v0_,.int .i64 kc])∧Kd.R (Kd.int .u8) 5 w' W.heap.size (fun _=>True) v0_ kv∧Below W.heap.size W w'):=⟨fun W hb=>zj4.calls k A4 c4 l4 kv kc W (Kd.zq3 hr4 hb) hc4 (LD.below hL hb) hk⟩
 have HR2:=zqd.mk hr2
 have HR3:=zqd.mk hr3
 have HF:=zqd.mk h
 have HQ:=zqd.mk he
 have hu:=Tryd.underlying32
 clear hr1 hr2 hr3 hr4 hL h he hk
 go_enter Tryd.func30,Tryd.ntmps30
 have hcl:Kd.C (Kd.slice 3 (Kd.int .i64)) ((w.alloc (.cells #[.string a0,.slice A1 l1.length c1,.slice A2 l2.length c2,.slice A3 l3.length c3] 61)).alloc (.cells #[.slice A2 l2.length c2] 58)) (some ⟨w.heap.size+1,0,none⟩) [l2].length [l2]:=by
  have h:=zjw.at_new (w.alloc (.cells #[.string a0,.slice A1 l1.length c1,.slice A2 l2.length c2,.slice A3 l3.length c3] 61)) (.cells #[.slice A2 l2.length c2] 58)
  rw [show(w.alloc (.cells #[.string a0,.slice A1 l1.length c1,.slice A2 l2.length c2,.slice A3 l3.length c3] 61)).heap.size=w.heap.size+1 from by simp] at h
  refine zjw.lits (cs := [.slice A2 l2.length c2]) h rfl (by simp) (fun j l hj=>?_)
  obtain rfl:j=0:=by
   rcases j with _|j
   ·rfl
   ·simp at hj
  obtain rfl:l2=l:=by simpa using hj
  exact⟨A2,c2,rfl,hc2,Kd.zqw (Kd.zqw HR2.out _) _⟩
 have HC1:=zqd.mk (HE.out _ 0 (w.heap.size+1) 1 [l2] e0 e1 (zqb (zqb (Below.refl _ _) _) _) hcl rfl HQ.out)
 clear hcl HQ
 go_wp2_with (first
  | (go_at_call 58;(with_reducible refine HC1.out.mono ?_);rintro e w1 ⟨v0,v1,rfl,hR0,hR1,hb1⟩;(obtain ⟨A5,c5,rfl⟩:=Kd.zx7 hR0);(obtain ⟨A6,c6,rfl⟩:=Kd.zx7 hR1);have hB1:Below w.heap.size w w1:=(zqb (zqb (Below.refl _ _) _) _).trans (hb1.mono (by simp;omega));have hz1:=hb1.size;have HX1:=zqd.mk ((hb1.block w.heap.size (by simp;omega)).trans (((zqb (Below.refl (w.alloc (.cells #[.string a0,.slice A1 l1.length c1,.slice A2 l2.length c2,.slice A3 l3.length c3] 61)).heap.size (w.alloc (.cells #[.string a0,.slice A1 l1.length c1,.slice A2 l2.length c2,.slice A3 l3.length c3] 61))) _).block w.heap.size (by simp)).trans (heap_alloc_new w _)));have HR0:=zqd.mk hR0;have HB1:=zqd.mk hB1;have HZ1:=zqd.mk hz1;clear hR0 hR1 hb1 hB1 hz1)
  | (go_at_call 59;(refine(HK.out _ (zqb HB1.out _)).mono ?_);rintro e w2 ⟨v2,rfl,hR2,hb2⟩;(obtain ⟨A7,c7,rfl⟩:=Kd.zx7 hR2);have hx2:=(hb2.block w1.heap.size (by simp)).trans (heap_alloc_new w1 _);have x20:w2.cell? ⟨w1.heap.size,0,none⟩=some (.slice A5 e0.length c5):=(zqf hx2 0).trans rfl;have x21:w2.cell? ⟨w1.heap.size,1,none⟩=some (.slice A6 e1.length c6):=(zqf hx2 1).trans rfl;have f21:w2.frozen? ⟨w1.heap.size,1,none⟩=false:=(zqe hx2 1).trans rfl;have hy2:=(hb2.block w.heap.size (by have h_:=HZ1.out;simp at h_ ⊢;omega)).trans (((zqb (Below.refl w1.heap.size w1) _).block w.heap.size (by have h_:=HZ1.out;simp at h_;omega)).trans HX1.out);have y23:w2.cell? ⟨w.heap.size,3,none⟩=some (.slice A3 l3.length c3):=(zqf hy2 3).trans rfl;have hne:w.heap.size≠w1.heap.size:=(by have h_:=HZ1.out;simp at h_;omega);have hlt2:w.heap.size<w2.heap.size:=zxh hy2;have HB2:=zqd.mk hb2;have HR2b:=zqd.mk hR2;have HY2:=zqd.mk hy2;clear hR2 hb2 hx2 hy2))
 have HEP:zqd (zjw.EP w ((w2.setCell ⟨w1.heap.size,1,none⟩ (.slice A7 kv.length c7)).alloc (.cells #[.slice A5 e0.length c5,.slice A7 kv.length c7] 32)) (.cells #[.string a0,.slice A1 l1.length c1,.slice A2 l2.length c2,.slice A3 l3.length c3] 61) (.slice (some ⟨w2.heap.size,0,none⟩) 1 1) [⟨e0,kv⟩]):=⟨by
  have hz1:=HZ1.out
  simp at hz1
  have hsz:(w2.setCell ⟨w1.heap.size,1,none⟩ (.slice A7 kv.length c7)).heap.size=w2.heap.size:=by simp [World.setCell]
  have hz2:=HB2.out.size
  simp at hz2
  refine⟨zqb (((zqb HB1.out _).trans (HB2.out.mono (by simp;omega))).setCell (p:=⟨w1.heap.size,1,none⟩) (by show w.heap.size≤w1.heap.size;omega) _) _,?_,?_⟩
  ·exact((zqb (Below.refl (w2.setCell ⟨w1.heap.size,1,none⟩ (.slice A7 kv.length c7)).heap.size _) _).block w.heap.size (by omega)).trans ((Below.heap_setCell _ _ _ _ (by show w.heap.size≠w1.heap.size;omega)).trans HY2.out)
  ·have q0:=zjw.far1 (b:=w.heap.size+1) (Kd.zja (zjw.own1 (b0:=w.heap.size+1) HR0.out (by simp)) (fun k hk=>by simp at hk;omega)) HB2.out (.slice A7 kv.length c7)
   have q1:Kd.R (Kd.int .u8) 5 (w2.setCell ⟨w1.heap.size,1,none⟩ (.slice A7 kv.length c7)) (w.heap.size+1) (fun k=>w.heap.size+1≤k) (.slice A7 kv.length c7) kv:=Kd.zja (Kd.R_far (p:=⟨w1.heap.size,1,none⟩) (zjw.own1 (b0:=w.heap.size+1) HR2b.out (by simp;omega)) (fun k hk=>by show k≠w1.heap.size;simp at hk;omega) _) (fun k hk=>by simp at hk;omega)
   have h:=zjw.one_ (x:=⟨e0,kv⟩) (by rw [hsz];omega) q0 q1
   rw [hsz] at h
   exact Kd.S_lower h (by omega)⟩
 clear HC1 HR0 HR2b HB1 HB2 HZ1 HX1 HY2 x20 x21 f21 y23 hne hlt2
 generalize (w2.setCell ⟨w1.heap.size,1,none⟩ (.slice A7 kv.length c7)).alloc (.cells #[.slice A5 e0.length c5,.slice A7 kv.length c7] 32)=w3 at *
 go_loopw [8,9,10,28] (fun v _ _ i wr => ∃ (j:Nat) (acc:List S32),j≤l3.length∧i = .int .i64 j∧zqd (zjw.run k a1 l4 l2 (l3.drop j) j acc=some r)∧zqd (zjw.EP w wr (.cells #[.string a0,.slice A1 l1.length c1,.slice A2 l2.length c2,.slice A3 l3.length c3] 61) v acc)) (fun _ _ _ i _=>l3.length - (intOf i).toNat)
 case atStart=>exact⟨0,_,Nat.zero_le _,rfl,HF,HEP⟩
 case round=>
  clear HF HEP
  obtain ⟨j,acc,hj,rfl,HF,HEP⟩:=hrel
  obtain ⟨Av,cv,rfl⟩:=Kd.S_slice HEP.out.2.2
  have hy:=HEP.out.2.1
  have hnw:=zxh hy
  have y2:wr.cell? ⟨w.heap.size,2,none⟩=some (.slice A2 l2.length c2):=(zqf hy 2).trans rfl
  clear hy
  by_cases hlt:j<l3.length
  ·obtain ⟨b,o,rfl,hcs⟩:=zjw.at_ (Kd.zq3 HR3.out HEP.out.1) (by omega)
   obtain ⟨A8,c8,p0,p1,l8,r8⟩:=hcs j hlt
   have hf:=HF.out
   rw [List.drop_eq_getElem_cons hlt,zjw.run] at hf
   obtain ⟨⟨q0,q1⟩,hq,hf⟩:=Option.bind_eq_some_iff.1 hf
   by_cases hac:acc.length<100000
   rotate_left
   ·rw [if_neg hac] at hf;cases hf
   rw [if_pos hac] at hf
   have HF2:=zqd.mk hf
   generalize l3[j]=x at *
   have hcl:Kd.C (Kd.slice 3 (Kd.int .i64)) ((wr.alloc (.cells #[.string x.f0,.slice A8 x.f1.length c8] 96)).alloc (.cells #[.slice A8 x.f1.length c8,.slice A2 l2.length c2] 58)) (some ⟨wr.heap.size+1,0,none⟩) [x.f1,l2].length [x.f1,l2]:=by
    have h:=zjw.at_new (wr.alloc (.cells #[.string x.f0,.slice A8 x.f1.length c8] 96)) (.cells #[.slice A8 x.f1.length c8,.slice A2 l2.length c2] 58)
    rw [show(wr.alloc (.cells #[.string x.f0,.slice A8 x.f1.length c8] 96)).heap.size=wr.heap.size+1 from by simp] at h
    refine zjw.lits (cs := [.slice A8 x.f1.length c8,.slice A2 l2.length c2]) h rfl (by simp) (fun i l hi=>?_)
    rcases i with _|_|i
    ·obtain rfl:x.f1=l:=by simpa using hi
     exact⟨A8,c8,rfl,l8,Kd.zqw (Kd.zqw r8 _) _⟩
    ·obtain rfl:l2=l:=by simpa using hi
     exact⟨A2,c2,rfl,hc2,Kd.zqw (Kd.zqw (Kd.zq3 HR2.out HEP.out.1) _) _⟩
    ·simp at hi
   have HC2:=zqd.mk (HE.out _ ((j:Int)+1) (wr.heap.size+1) 2 [x.f1,l2] q0 q1 (zqb (zqb HEP.out.1 _) _) hcl rfl hq)
   clear hcl hq hf r8 hcs
   go_wp2_with (first
    | (go_at_call 58;(with_reducible refine HC2.out.mono ?_);rintro e w5 ⟨v0,v1,rfl,hR0,hR1,hb1⟩;(obtain ⟨A9,c9,rfl⟩:=Kd.zx7 hR0);(obtain ⟨A10,c10,rfl⟩:=Kd.zx7 hR1);have hB5:Below wr.heap.size wr w5:=(zqb (zqb (Below.refl _ _) _) _).trans (hb1.mono (by simp;omega));have hz5:=hb1.size;have HR5:=zqd.mk hR0;have HR6:=zqd.mk hR1;have HB5:=zqd.mk hB5;have HZ5:=zqd.mk hz5;clear hR0 hR1 hb1 hB5 hz5)
    | (at_builtin;refine Kd.S_append k32 (w0:=w5) w.heap.size rfl (.tmp 33) (.tmp 44) 24 32 (.agg #[(.slice none 0 0),(.slice none 0 0)]) 48 rfl Tryd.underlying24 info32 rfl (by decide) (by decide) (.slice Av acc.length cv) acc ⟨q0,q1⟩ [.slice A9 q0.length c9,.slice A10 q1.length c10] (fun k=>w.heap.size<k) (fun k=>wr.heap.size≤k) rfl ?cX ?cP ?cO ?cF ?cH ?cB ?cS ?cL ?_;(case cX=>first|rfl|(simp [Act.eval];done)|(go_simp;done));(case cP=>exact k32_mkM _ _ _ ⟨q0,q1⟩ (Kd.zja (zjw.own1 HR5.out (by simp;omega)) (fun k hk=>by simp at hk;omega)) (Kd.zja (zjw.own1 HR6.out (by simp;omega)) (fun k hk=>by simp at hk;omega)));(case cO=>intro k hk;exact⟨by omega,fun e_=>by have h2_:=Kd.S_lt HEP.out.2.2 k e_.symm;omega⟩);(case cF=>intro k hk;have h_:=HZ5.out;simp at h_;omega);(case cH=>exact Kd.S_below (Kd.S_mono (Kd.S_bound HEP.out.2.2) (fun k hk=>⟨hk.1,by have:=hk.2.2.1;omega⟩)) HB5.out);(case cB=>exact Below.refl _ _);(case cS=>have h_:=HZ5.out;simp at h_;omega);(case cL=>omega);intro v6 w6 ho hb hg_ hat;have HO6:=zqd.mk ho;have HB6:=zqd.mk hb;have HG6:=zqd.mk hg_;clear ho hb hg_ hat))
   go_roundw
   case rel=>
    have hz:=HB5.out.size
    refine⟨j+1,acc ++ [⟨q0,q1⟩],by omega,by go_num,HF2,⟨(HEP.out.1.trans (HB5.out.mono HEP.out.1.size)).trans HB6.out,?_,HO6.out⟩⟩
    refine(HG6.out.block w.heap.size (by omega) (fun e_=>?_)).trans ((HB5.out.block w.heap.size hnw).trans HEP.out.2.1)
    exact Nat.lt_irrefl _ ((Kd.S_R HEP.out.2.2).1 _ e_.symm)
   case measure=>simp [intOf];omega
  ·obtain rfl:j=l3.length:=by omega
   have hf:=HF.out
   rw [List.drop_length,zjw.run] at hf
   obtain rfl:=Option.some.inj hf
   clear hf
   go_wp2
   go_ret
   exact⟨_,rfl,Kd.S_mono HEP.out.2.2 (fun _ _=>trivial),HEP.out.1⟩

/-! ### zxa: function 10 -/
def zxa.f (k:Nat) (l0:List (S61)) (a1:Int) (l2:List (S38)):Option ((List (S32)) × Int):=(zxv.f k l0 a1).bind fun bt189=>(if bt189.2.2.2.2=0 then((zj1.f k bt189.1 bt189.2.1 bt189.2.2.1 bt189.2.2.2.1 l2).bind fun t201=>(if t201=0 then((zjw.f k bt189.1 bt189.2.1 bt189.2.2.1 bt189.2.2.2.1 a1 l2).bind fun t202=>(some (t202,0))) else (some (([]:List (S32)),t201)))) else (some (([]:List (S32)),bt189.2.2.2.2)))
theorem zxa.mono:∀ a0 a1 a2 k,LeO (zxa.f k a0 a1 a2) (zxa.f (k+1) a0 a1 a2):=by
 intro a0 a1 a2 k
 unfold zxa.f
 repeat' first
   | (with_reducible first|exact zjw.mono _ _ _ _ _ _ _|exact zj1.mono _ _ _ _ _ _|exact zxv.mono _ _ _|exact LeO.refl _|exact LeO.none _|refine LeO.ite ?_ ?_|refine LeO.bind ?_ (fun _=>?_))
   | exact zjw.mono _ _ _ _ _ _ _
   | exact zj1.mono _ _ _ _ _ _
   | exact zxv.mono _ _ _
   | exact LeO.none _
   | refine LeO.ite ?_ ?_
   | refine LeO.bind ?_ (fun _=>?_)
set_option maxHeartbeats 8000000 in
set_option maxRecDepth 100000 in
theorem zxa.calls (k:Nat) (A0:Option Addr) (c0:Nat) (l0:List (S61)) (a1:Int) (A2:Option Addr) (c2:Nat) (l2:List (S38)) (r1:List (S32)) (r2:Int) (w:World) (hr0:Kd.C k61 w A0 l0.length l0) (hc0:l0.length≤c0) (hr2:Kd.C k38 w A2 l2.length l2) (hc2:l2.length≤c2) (hL:LD w) (h:zxa.f k l0 a1 l2=some (r1,r2)) :
  Calls Tryd.prog 10 #[.slice A0 l0.length c0,.int .i64 a1,.slice A2 l2.length c2] w fun e w' => ∃ v0_:Value,e = .returned (.tuple #[v0_,.int .i64 r2])∧Kd.S k32 32 w' w.heap.size (fun _=>True) v0_ r1∧Below w.heap.size w w':=by
 have hu61:=Tryd.underlying61
 have HLD:=zqd.mk hL
 clear hL
 have HR0:=zqd.mk hr0
 have HC0:=zqd.mk hc0
 clear hr0 hc0
 have HR2:=zqd.mk hr2
 have HC2:=zqd.mk hc2
 clear hr2 hc2
 have HB:=zqd.mk (Below.refl w.heap.size w)
 have H:((zxv.f k l0 a1).bind fun bt189=>(if bt189.2.2.2.2=0 then((zj1.f k bt189.1 bt189.2.1 bt189.2.2.1 bt189.2.2.2.1 l2).bind fun t201=>(if t201=0 then((zjw.f k bt189.1 bt189.2.1 bt189.2.2.1 bt189.2.2.2.1 a1 l2).bind fun t202=>(some (t202,0))) else (some (([]:List (S32)),t201)))) else (some (([]:List (S32)),bt189.2.2.2.2))))=some (r1,r2):=h
 clear h
 replace H:=Option.bind_eq_some_iff.mp H
 obtain ⟨⟨t189,t190,t193,t196,t199⟩,A40,H⟩:=H
 replace H:(if t199=0 then((zj1.f k t189 t190 t193 t196 l2).bind fun t201=>(if t201=0 then((zjw.f k t189 t190 t193 t196 a1 l2).bind fun t202=>(some (t202,0))) else (some (([]:List (S32)),t201)))) else (some (([]:List (S32)),t199)))=some (r1,r2):=H
 have A4:=zqd.mk A40
 clear A40
 by_cases c5:t199=0
 ·rw [if_pos c5] at H
  have c5b0:(t199 == 0)=true:=beq_iff_eq.mpr c5
  have c5b1:(t199 != 0)=false:=bne_eq_false_iff_eq.mpr c5
  clear c5
  replace H:=Option.bind_eq_some_iff.mp H
  obtain ⟨t201,A60,H⟩:=H
  replace H:(if t201=0 then((zjw.f k t189 t190 t193 t196 a1 l2).bind fun t202=>(some (t202,0))) else (some (([]:List (S32)),t201)))=some (r1,r2):=H
  have A6:=zqd.mk A60
  clear A60
  by_cases c7:t201=0
  ·rw [if_pos c7] at H
   have c7b0:(t201 == 0)=true:=beq_iff_eq.mpr c7
   have c7b1:(t201 != 0)=false:=bne_eq_false_iff_eq.mpr c7
   clear c7
   replace H:=Option.bind_eq_some_iff.mp H
   obtain ⟨t202,A80,H⟩:=H
   replace H:(some (t202,0))=some (r1,r2):=H
   have A8:=zqd.mk A80
   clear A80
   simp only [Option.some.injEq,Prod.mk.injEq] at H
   obtain ⟨rfl,rfl⟩:=H
   go_enter Tryd.func10,Tryd.ntmps10
   go_wp2_with (first|((with_reducible refine zqv (f:=28) rfl ?_);refine zq8 (some 13) rfl rfl Tryd.func28 (by kernel_rfl) rfl #[.slice A0 l0.length c0,.int .i64 a1] rfl (by(try simp only [List.map_toArray,List.map_cons,List.map_nil]);first|done|rfl|(simp only [List.length_drop,List.length_take];rfl)) ?_;(with_reducible refine(zxv.calls k (fun k_=>k_<w.heap.size) _ _ l0 a1 t189 t190 t193 t196 t199 _ ?side1 ?side2 A4.out).mono ?_);(case side1=>exact Kd.V_mk HC0.out (Kd.F_below (Kd.C_F k61_heap HR0.out) (by repeat(first|(with_reducible first|exact HB.out|apply zqb|apply zqa|apply zqc)|exact HB.out))));(case side2=>exact LD.below HLD.out (by first|(with_reducible exact Below.refl _ _)|((repeat(first|(with_reducible exact Below.refl _ _)|(with_reducible apply zqb)|(with_reducible apply zqa)|(with_reducible apply zqc)));done)|exact(by repeat(first|(with_reducible first|exact HB.out|apply zqb|apply zqa|apply zqc)|exact HB.out))));rintro e w9 ⟨v191,v194,v197,rfl,ho0,ho1,ho2,hb⟩;refine⟨_,rfl,?_⟩;have n0_:=zqd.mk (Kd.V_lower (Kd.zq9 (ok':=fun k_=>True) ho0 (fun k_ hk_=>trivial)) (zqk (by repeat(first|(with_reducible first|exact HB.out|apply zqb|apply zqa|apply zqc)|exact HB.out))));have n1_:=zqd.mk (Kd.V_lower (Kd.zq9 (ok':=fun k_=>True) ho1 (fun k_ hk_=>trivial)) (zqk (by repeat(first|(with_reducible first|exact HB.out|apply zqb|apply zqa|apply zqc)|exact HB.out))));have n2_:=zqd.mk (Kd.V_lower (Kd.zq9 (ok':=fun k_=>True) ho2 (fun k_ hk_=>trivial)) (zqk (by repeat(first|(with_reducible first|exact HB.out|apply zqb|apply zqa|apply zqc)|exact HB.out))));have n3_:=zqd.mk (zqn (by repeat(first|(with_reducible first|exact HB.out|apply zqb|apply zqa|apply zqc)|exact HB.out)) hb);clear HB;have HO192:=n0_;have HO195:=n1_;have HO198:=n2_;have HB:=n3_;clear n0_ n1_ n2_ n3_;(try clear hb);(try clear hb2);(try clear hk);(try clear hi);(try clear ho0);(try clear ho1);(try clear ho2))|((with_reducible refine zqx (N:=8) rfl ?_);refine zqt ?hg (N:=8) ?hd (cs:=#[.string (⟨#[]⟩:ByteArray),.slice none 0 0,.slice none 0 0,.slice none 0 0]) (t:=61) ?hr ?_;(case hd=>rfl);(case hg=>rfl);(case hr=>first|(go_simp;done)|(go_simp;rfl));intro gb200 hg w10 hbox hb;have n0_:=zqd.mk (Kd.zxw (Kd.zkd (by(with_reducible repeat(first|apply Kd.zxe|apply Kd.zxd|apply Kd.zxt));exact HO192.out) gb200 (Nat.le_of_eq hg.symm)) hb);have n1_:=zqd.mk (Kd.zxw (Kd.zkd (by(with_reducible repeat(first|apply Kd.zxe|apply Kd.zxd|apply Kd.zxt));exact HO195.out) gb200 (Nat.le_of_eq hg.symm)) hb);have n2_:=zqd.mk (Kd.zxw (Kd.zkd (by(with_reducible repeat(first|apply Kd.zxe|apply Kd.zxd|apply Kd.zxt));exact HO198.out) gb200 (Nat.le_of_eq hg.symm)) hb);have n3_:=zqd.mk (zqn (by repeat(first|(with_reducible first|exact HB.out|apply zqb|apply zqa|apply zqc)|exact HB.out)) hb);have n4_:=zqd.mk (hbox);have n5_:=zqd.mk ((by rw [hg];exact(zqk (by repeat(first|(with_reducible first|exact HB.out|apply zqb|apply zqa|apply zqc)|exact HB.out))):w.heap.size≤gb200));have n6_:=zqd.mk ((by rw [hg];exact(zqk (by repeat(first|(with_reducible first|exact HB.out|apply zqb|apply zqa|apply zqc)|exact HB.out))):w.heap.size≤gb200));clear HO192 HO195 HO198 HB;have HO192:=n0_;have HO195:=n1_;have HO198:=n2_;have HB:=n3_;have BK200:=n4_;have GW200:=n5_;have GE200:=n6_;clear n0_ n1_ n2_ n3_ n4_ n5_ n6_ hb hbox hg;have hcz11_0:w10.cell? ⟨gb200,0,none⟩=some (.string (⟨#[]⟩:ByteArray)):=(zqf BK200.out 0).trans rfl;have hcz11_1:w10.cell? ⟨gb200,1,none⟩=some (.slice none 0 0):=(zqf BK200.out 1).trans rfl;have hcz11_2:w10.cell? ⟨gb200,2,none⟩=some (.slice none 0 0):=(zqf BK200.out 2).trans rfl;have hcz11_3:w10.cell? ⟨gb200,3,none⟩=some (.slice none 0 0):=(zqf BK200.out 3).trans rfl;have hfz11_0:=zqe BK200.out 0;have hfz11_1:=zqe BK200.out 1;have hfz11_2:=zqe BK200.out 2;have hfz11_3:=zqe BK200.out 3;obtain ⟨Ao12,co12,eo12⟩:=Kd.V_slice HO192.out;subst eo12;obtain ⟨Ao13,co13,eo13⟩:=Kd.V_slice HO195.out;subst eo13;obtain ⟨Ao14,co14,eo14⟩:=Kd.V_slice HO198.out;subst eo14)|((with_reducible refine zqv (f:=29) rfl ?_);refine zq8 (some 20) rfl rfl Tryd.func29 (by kernel_rfl) rfl #[.agg #[.string t189,.slice Ao12 t190.length co12,.slice Ao13 t193.length co13,.slice Ao14 t196.length co14],.slice A2 l2.length c2] rfl (by(try simp only [List.map_toArray,List.map_cons,List.map_nil]);first|done|rfl|(simp only [List.length_drop,List.length_take];rfl)) ?_;(with_reducible refine(zj1.calls k t189 _ _ t190 _ _ t193 _ _ t196 _ _ l2 t201 _ ?side1 ?side2 ?side3 ?side4 ?side5 ?side6 ?side7 ?side8 ?side9 A6.out).mono ?_);(case side1=>refine(Kd.zxc (e:=90) (base:=w.heap.size) (ok:=fun k_=>(True∧k_≠gb200)) (n:=t190.length) (c:=co12) ?_).2.2;exact(by(with_reducible repeat(first|apply Kd.zxe|apply Kd.zxd|apply Kd.zxt));exact(Kd.zq9 (Kd.zxk (p:=⟨gb200,3,none⟩) (Kd.zxk (p:=⟨gb200,2,none⟩) (Kd.zxk (p:=⟨gb200,1,none⟩) (Kd.zxk (p:=⟨gb200,0,none⟩) (Kd.zq9 HO192.out (fun k_ hk=>(⟨hk,hk.2⟩:_∧k_≠gb200))) (fun _ hk=>hk.2) (.string t189)) (fun _ hk=>hk.2) (.slice Ao12 t190.length co12)) (fun _ hk=>hk.2) (.slice Ao13 t193.length co13)) (fun _ hk=>hk.2) (.slice Ao14 t196.length co14)) (fun _ h_=>h_.1))));(case side2=>exact(Kd.zxc HO192.out).2.1);(case side3=>refine(Kd.zxc (e:=3) (base:=w.heap.size) (ok:=fun k_=>(True∧k_≠gb200)) (n:=t193.length) (c:=co13) ?_).2.2;exact(by(with_reducible repeat(first|apply Kd.zxe|apply Kd.zxd|apply Kd.zxt));exact(Kd.zq9 (Kd.zxk (p:=⟨gb200,3,none⟩) (Kd.zxk (p:=⟨gb200,2,none⟩) (Kd.zxk (p:=⟨gb200,1,none⟩) (Kd.zxk (p:=⟨gb200,0,none⟩) (Kd.zq9 HO195.out (fun k_ hk=>(⟨hk,hk.2⟩:_∧k_≠gb200))) (fun _ hk=>hk.2) (.string t189)) (fun _ hk=>hk.2) (.slice Ao12 t190.length co12)) (fun _ hk=>hk.2) (.slice Ao13 t193.length co13)) (fun _ hk=>hk.2) (.slice Ao14 t196.length co14)) (fun _ h_=>h_.1))));(case side4=>exact(Kd.zxc HO195.out).2.1);(case side5=>refine(Kd.zxc (e:=96) (base:=w.heap.size) (ok:=fun k_=>(True∧k_≠gb200)) (n:=t196.length) (c:=co14) ?_).2.2;exact(by(with_reducible repeat(first|apply Kd.zxe|apply Kd.zxd|apply Kd.zxt));exact(Kd.zq9 (Kd.zxk (p:=⟨gb200,3,none⟩) (Kd.zxk (p:=⟨gb200,2,none⟩) (Kd.zxk (p:=⟨gb200,1,none⟩) (Kd.zxk (p:=⟨gb200,0,none⟩) (Kd.zq9 HO198.out (fun k_ hk=>(⟨hk,hk.2⟩:_∧k_≠gb200))) (fun _ hk=>hk.2) (.string t189)) (fun _ hk=>hk.2) (.slice Ao12 t190.length co12)) (fun _ hk=>hk.2) (.slice Ao13 t193.length co13)) (fun _ hk=>hk.2) (.slice Ao14 t196.length co14)) (fun _ h_=>h_.1))));(case side6=>exact(Kd.zxc HO198.out).2.1);(case side7=>exact Kd.zq3 HR2.out (by repeat(first|(with_reducible first|exact HB.out|apply zqb|apply zqa|apply zqc|refine zqi ?_ GE200.out)|exact HB.out)));(case side8=>exact HC2.out);(case side9=>exact LD.below HLD.out (by first|(with_reducible exact Below.refl _ _)|((repeat(first|(with_reducible exact Below.refl _ _)|(with_reducible apply zqb)|(with_reducible apply zqa)|(with_reducible apply zqc)));done)|exact(by repeat(first|(with_reducible first|exact HB.out|apply zqb|apply zqa|apply zqc|refine zqi ?_ GE200.out)|exact HB.out))));rintro e w15 ⟨rfl,hb⟩;refine⟨_,rfl,?_⟩;have n0_:=zqd.mk (Kd.zxw (by(with_reducible repeat(first|apply Kd.zxe|apply Kd.zxd|apply Kd.zxt));exact(Kd.zq9 (Kd.zxk (p:=⟨gb200,3,none⟩) (Kd.zxk (p:=⟨gb200,2,none⟩) (Kd.zxk (p:=⟨gb200,1,none⟩) (Kd.zxk (p:=⟨gb200,0,none⟩) (Kd.zq9 HO192.out (fun k_ hk=>(⟨hk,hk.2⟩:_∧k_≠gb200))) (fun _ hk=>hk.2) (.string t189)) (fun _ hk=>hk.2) (.slice Ao12 t190.length co12)) (fun _ hk=>hk.2) (.slice Ao13 t193.length co13)) (fun _ hk=>hk.2) (.slice Ao14 t196.length co14)) (fun _ h_=>h_.1))) hb);have n1_:=zqd.mk (Kd.zxw (by(with_reducible repeat(first|apply Kd.zxe|apply Kd.zxd|apply Kd.zxt));exact(Kd.zq9 (Kd.zxk (p:=⟨gb200,3,none⟩) (Kd.zxk (p:=⟨gb200,2,none⟩) (Kd.zxk (p:=⟨gb200,1,none⟩) (Kd.zxk (p:=⟨gb200,0,none⟩) (Kd.zq9 HO195.out (fun k_ hk=>(⟨hk,hk.2⟩:_∧k_≠gb200))) (fun _ hk=>hk.2) (.string t189)) (fun _ hk=>hk.2) (.slice Ao12 t190.length co12)) (fun _ hk=>hk.2) (.slice Ao13 t193.length co13)) (fun _ hk=>hk.2) (.slice Ao14 t196.length co14)) (fun _ h_=>h_.1))) hb);have n2_:=zqd.mk (Kd.zxw (by(with_reducible repeat(first|apply Kd.zxe|apply Kd.zxd|apply Kd.zxt));exact(Kd.zq9 (Kd.zxk (p:=⟨gb200,3,none⟩) (Kd.zxk (p:=⟨gb200,2,none⟩) (Kd.zxk (p:=⟨gb200,1,none⟩) (Kd.zxk (p:=⟨gb200,0,none⟩) (Kd.zq9 HO198.out (fun k_ hk=>(⟨hk,hk.2⟩:_∧k_≠gb200))) (fun _ hk=>hk.2) (.string t189)) (fun _ hk=>hk.2) (.slice Ao12 t190.length co12)) (fun _ hk=>hk.2) (.slice Ao13 t193.length co13)) (fun _ hk=>hk.2) (.slice Ao14 t196.length co14)) (fun _ h_=>h_.1))) hb);have n3_:=zqd.mk (zqr (g:=gb200) (o:=.cells #[.string t189,.slice Ao12 t190.length co12,.slice Ao13 t193.length co13,.slice Ao14 t196.length co14] 61 (0,0)) (by(with_reducible repeat(first|refine zqg ?_ _|refine zqj ?_|refine zqh ?_ _));refine zqu (cs:=#[.string t189,.slice Ao12 t190.length co12,.slice Ao13 t193.length co13,.slice none 0 0]) ?_ 3 _ rfl;(with_reducible repeat(first|refine zqg ?_ _|refine zqj ?_|refine zqh ?_ _));refine zqu (cs:=#[.string t189,.slice Ao12 t190.length co12,.slice none 0 0,.slice none 0 0]) ?_ 2 _ rfl;(with_reducible repeat(first|refine zqg ?_ _|refine zqj ?_|refine zqh ?_ _));refine zqu (cs:=#[.string t189,.slice none 0 0,.slice none 0 0,.slice none 0 0]) ?_ 1 _ rfl;(with_reducible repeat(first|refine zqg ?_ _|refine zqj ?_|refine zqh ?_ _));refine zqu (cs:=#[.string (⟨#[]⟩:ByteArray),.slice none 0 0,.slice none 0 0,.slice none 0 0]) ?_ 0 _ rfl;(with_reducible repeat(first|refine zqg ?_ _|refine zqj ?_|refine zqh ?_ _));exact BK200.out) hb);have n4_:=zqd.mk (zqn (by repeat(first|(with_reducible first|exact HB.out|apply zqb|apply zqa|apply zqc|refine zqi ?_ GE200.out)|exact HB.out)) hb);clear HO192 HO195 HO198 BK200 HB;have HO192:=n0_;have HO195:=n1_;have HO198:=n2_;have BK200:=n3_;have HB:=n4_;clear n0_ n1_ n2_ n3_ n4_;(try clear hb);(try clear hb2);(try clear hk);(try clear hi);have hcz16_0:w15.cell? ⟨gb200,0,none⟩=some (.string t189):=(zqf BK200.out 0).trans rfl;have hcz16_1:w15.cell? ⟨gb200,1,none⟩=some (.slice Ao12 t190.length co12):=(zqf BK200.out 1).trans rfl;have hcz16_2:w15.cell? ⟨gb200,2,none⟩=some (.slice Ao13 t193.length co13):=(zqf BK200.out 2).trans rfl;have hcz16_3:w15.cell? ⟨gb200,3,none⟩=some (.slice Ao14 t196.length co14):=(zqf BK200.out 3).trans rfl;have hfz16_0:=zqe BK200.out 0;have hfz16_1:=zqe BK200.out 1;have hfz16_2:=zqe BK200.out 2;have hfz16_3:=zqe BK200.out 3)|((with_reducible refine zqv (f:=30) rfl ?_);refine zq8 (some 27) rfl rfl Tryd.func30 (by kernel_rfl) rfl #[.agg #[.string t189,.slice Ao12 t190.length co12,.slice Ao13 t193.length co13,.slice Ao14 t196.length co14],.int .i64 a1,.slice A2 l2.length c2] rfl (by(try simp only [List.map_toArray,List.map_cons,List.map_nil]);first|done|rfl|(simp only [List.length_drop,List.length_take];rfl)) ?_;(with_reducible refine(zjw.calls k t189 _ _ t190 _ _ t193 _ _ t196 a1 _ _ l2 t202 _ ?side1 ?side2 ?side3 ?side4 ?side5 ?side6 ?side7 ?side8 ?side9 A8.out).mono ?_);(case side1=>repeat(first|exact(Kd.zxc HO192.out).2.2|(with_reducible refine Kd.zqw ?_ _)|(with_reducible refine Kd.zqy ?_ _)|(with_reducible refine Kd.zq2 ?_)));(case side2=>exact(Kd.zxc HO192.out).2.1);(case side3=>repeat(first|exact(Kd.zxc HO195.out).2.2|(with_reducible refine Kd.zqw ?_ _)|(with_reducible refine Kd.zqy ?_ _)|(with_reducible refine Kd.zq2 ?_)));(case side4=>exact(Kd.zxc HO195.out).2.1);(case side5=>repeat(first|exact(Kd.zxc HO198.out).2.2|(with_reducible refine Kd.zqw ?_ _)|(with_reducible refine Kd.zqy ?_ _)|(with_reducible refine Kd.zq2 ?_)));(case side6=>exact(Kd.zxc HO198.out).2.1);(case side7=>repeat(first|exact(Kd.zq3 HR2.out HB.out)|(with_reducible refine Kd.zqw ?_ _)|(with_reducible refine Kd.zqy ?_ _)|(with_reducible refine Kd.zq2 ?_)));(case side8=>exact HC2.out);(case side9=>exact LD.below HLD.out (by first|(with_reducible exact Below.refl _ _)|((repeat(first|(with_reducible exact Below.refl _ _)|(with_reducible apply zqb)|(with_reducible apply zqa)|(with_reducible apply zqc)));done)|exact(by repeat(first|(with_reducible first|exact HB.out|apply zqb|apply zqa|apply zqc|refine zqi ?_ GE200.out)|exact HB.out))));rintro e w17 ⟨v203,rfl,ho0,hb⟩;refine⟨_,rfl,?_⟩;have n0_:=zqd.mk (Kd.V_elder' (by(with_reducible repeat(first|apply Kd.zxe|apply Kd.zxd|apply Kd.zxt));exact HO192.out) (Kd.S_base ho0) hb);have n1_:=zqd.mk (Kd.V_elder' (by(with_reducible repeat(first|apply Kd.zxe|apply Kd.zxd|apply Kd.zxt));exact HO195.out) (Kd.S_base ho0) hb);have n2_:=zqd.mk (Kd.V_elder' (by(with_reducible repeat(first|apply Kd.zxe|apply Kd.zxd|apply Kd.zxt));exact HO198.out) (Kd.S_base ho0) hb);have n3_:=zqd.mk (Kd.S_lower ho0 (zqk (by repeat(first|(with_reducible first|exact HB.out|apply zqb|apply zqa|apply zqc|refine zqi ?_ GE200.out)|exact HB.out))));have n4_:=zqd.mk (zqr (g:=gb200) (o:=.cells #[.string t189,.slice Ao12 t190.length co12,.slice Ao13 t193.length co13,.slice Ao14 t196.length co14] 61 (0,0)) (by(with_reducible repeat(first|refine zqg ?_ _|refine zqj ?_|refine zqh ?_ _));exact BK200.out) hb);have n5_:=zqd.mk (zqn (by repeat(first|(with_reducible first|exact HB.out|apply zqb|apply zqa|apply zqc|refine zqi ?_ GE200.out)|exact HB.out)) hb);clear HO192 HO195 HO198 BK200 HB;have HO192:=n0_;have HO195:=n1_;have HO198:=n2_;have HO204:=n3_;have BK200:=n4_;have HB:=n5_;clear n0_ n1_ n2_ n3_ n4_ n5_;(try clear hb);(try clear hb2);(try clear hk);(try clear hi);(try clear ho0)))
   go_ret2
   exact⟨_,by first|rfl|(simp [zqm,zql] <;> rfl)|(simp [*,zqm,zql] <;> rfl),by(with_reducible repeat(first|apply Kd.zxj|apply Kd.zxi|apply Kd.zxx));exact HO204.out,by repeat(first|(with_reducible first|exact HB.out|apply zqb|apply zqa|apply zqc|refine zqi ?_ GE200.out)|exact HB.out)⟩
  ·rw [if_neg c7] at H
   have c7b0:(t201 == 0)=false:=beq_eq_false_iff_ne.mpr c7
   have c7b1:(t201 != 0)=true:=bne_iff_ne.mpr c7
   simp only [Option.some.injEq,Prod.mk.injEq] at H
   obtain ⟨rfl,rfl⟩:=H
   go_enter Tryd.func10,Tryd.ntmps10
   go_wp2_with (first|((with_reducible refine zqv (f:=28) rfl ?_);refine zq8 (some 13) rfl rfl Tryd.func28 (by kernel_rfl) rfl #[.slice A0 l0.length c0,.int .i64 a1] rfl (by(try simp only [List.map_toArray,List.map_cons,List.map_nil]);first|done|rfl|(simp only [List.length_drop,List.length_take];rfl)) ?_;(with_reducible refine(zxv.calls k (fun k_=>k_<w.heap.size) _ _ l0 a1 t189 t190 t193 t196 t199 _ ?side1 ?side2 A4.out).mono ?_);(case side1=>exact Kd.V_mk HC0.out (Kd.F_below (Kd.C_F k61_heap HR0.out) (by repeat(first|(with_reducible first|exact HB.out|apply zqb|apply zqa|apply zqc)|exact HB.out))));(case side2=>exact LD.below HLD.out (by first|(with_reducible exact Below.refl _ _)|((repeat(first|(with_reducible exact Below.refl _ _)|(with_reducible apply zqb)|(with_reducible apply zqa)|(with_reducible apply zqc)));done)|exact(by repeat(first|(with_reducible first|exact HB.out|apply zqb|apply zqa|apply zqc)|exact HB.out))));rintro e w18 ⟨v191,v194,v197,rfl,ho0,ho1,ho2,hb⟩;refine⟨_,rfl,?_⟩;have n0_:=zqd.mk (Kd.V_lower (Kd.zq9 (ok':=fun k_=>True) ho0 (fun k_ hk_=>trivial)) (zqk (by repeat(first|(with_reducible first|exact HB.out|apply zqb|apply zqa|apply zqc)|exact HB.out))));have n1_:=zqd.mk (Kd.V_lower (Kd.zq9 (ok':=fun k_=>True) ho1 (fun k_ hk_=>trivial)) (zqk (by repeat(first|(with_reducible first|exact HB.out|apply zqb|apply zqa|apply zqc)|exact HB.out))));have n2_:=zqd.mk (Kd.V_lower (Kd.zq9 (ok':=fun k_=>True) ho2 (fun k_ hk_=>trivial)) (zqk (by repeat(first|(with_reducible first|exact HB.out|apply zqb|apply zqa|apply zqc)|exact HB.out))));have n3_:=zqd.mk (zqn (by repeat(first|(with_reducible first|exact HB.out|apply zqb|apply zqa|apply zqc)|exact HB.out)) hb);clear HB;have HO192:=n0_;have HO195:=n1_;have HO198:=n2_;have HB:=n3_;clear n0_ n1_ n2_ n3_;(try clear hb);(try clear hb2);(try clear hk);(try clear hi);(try clear ho0);(try clear ho1);(try clear ho2))|((with_reducible refine zqx (N:=8) rfl ?_);refine zqt ?hg (N:=8) ?hd (cs:=#[.string (⟨#[]⟩:ByteArray),.slice none 0 0,.slice none 0 0,.slice none 0 0]) (t:=61) ?hr ?_;(case hd=>rfl);(case hg=>rfl);(case hr=>first|(go_simp;done)|(go_simp;rfl));intro gb200 hg w19 hbox hb;have n0_:=zqd.mk (Kd.zxw (Kd.zkd (by(with_reducible repeat(first|apply Kd.zxe|apply Kd.zxd|apply Kd.zxt));exact HO192.out) gb200 (Nat.le_of_eq hg.symm)) hb);have n1_:=zqd.mk (Kd.zxw (Kd.zkd (by(with_reducible repeat(first|apply Kd.zxe|apply Kd.zxd|apply Kd.zxt));exact HO195.out) gb200 (Nat.le_of_eq hg.symm)) hb);have n2_:=zqd.mk (Kd.zxw (Kd.zkd (by(with_reducible repeat(first|apply Kd.zxe|apply Kd.zxd|apply Kd.zxt));exact HO198.out) gb200 (Nat.le_of_eq hg.symm)) hb);have n3_:=zqd.mk (zqn (by repeat(first|(with_reducible first|exact HB.out|apply zqb|apply zqa|apply zqc)|exact HB.out)) hb);have n4_:=zqd.mk (hbox);have n5_:=zqd.mk ((by rw [hg];exact(zqk (by repeat(first|(with_reducible first|exact HB.out|apply zqb|apply zqa|apply zqc)|exact HB.out))):w.heap.size≤gb200));have n6_:=zqd.mk ((by rw [hg];exact(zqk (by repeat(first|(with_reducible first|exact HB.out|apply zqb|apply zqa|apply zqc)|exact HB.out))):w.heap.size≤gb200));clear HO192 HO195 HO198 HB;have HO192:=n0_;have HO195:=n1_;have HO198:=n2_;have HB:=n3_;have BK200:=n4_;have GW200:=n5_;have GE200:=n6_;clear n0_ n1_ n2_ n3_ n4_ n5_ n6_ hb hbox hg;have hcz20_0:w19.cell? ⟨gb200,0,none⟩=some (.string (⟨#[]⟩:ByteArray)):=(zqf BK200.out 0).trans rfl;have hcz20_1:w19.cell? ⟨gb200,1,none⟩=some (.slice none 0 0):=(zqf BK200.out 1).trans rfl;have hcz20_2:w19.cell? ⟨gb200,2,none⟩=some (.slice none 0 0):=(zqf BK200.out 2).trans rfl;have hcz20_3:w19.cell? ⟨gb200,3,none⟩=some (.slice none 0 0):=(zqf BK200.out 3).trans rfl;have hfz20_0:=zqe BK200.out 0;have hfz20_1:=zqe BK200.out 1;have hfz20_2:=zqe BK200.out 2;have hfz20_3:=zqe BK200.out 3;obtain ⟨Ao21,co21,eo21⟩:=Kd.V_slice HO192.out;subst eo21;obtain ⟨Ao22,co22,eo22⟩:=Kd.V_slice HO195.out;subst eo22;obtain ⟨Ao23,co23,eo23⟩:=Kd.V_slice HO198.out;subst eo23)|((with_reducible refine zqv (f:=29) rfl ?_);refine zq8 (some 20) rfl rfl Tryd.func29 (by kernel_rfl) rfl #[.agg #[.string t189,.slice Ao21 t190.length co21,.slice Ao22 t193.length co22,.slice Ao23 t196.length co23],.slice A2 l2.length c2] rfl (by(try simp only [List.map_toArray,List.map_cons,List.map_nil]);first|done|rfl|(simp only [List.length_drop,List.length_take];rfl)) ?_;(with_reducible refine(zj1.calls k t189 _ _ t190 _ _ t193 _ _ t196 _ _ l2 t201 _ ?side1 ?side2 ?side3 ?side4 ?side5 ?side6 ?side7 ?side8 ?side9 A6.out).mono ?_);(case side1=>refine(Kd.zxc (e:=90) (base:=w.heap.size) (ok:=fun k_=>(True∧k_≠gb200)) (n:=t190.length) (c:=co21) ?_).2.2;exact(by(with_reducible repeat(first|apply Kd.zxe|apply Kd.zxd|apply Kd.zxt));exact(Kd.zq9 (Kd.zxk (p:=⟨gb200,3,none⟩) (Kd.zxk (p:=⟨gb200,2,none⟩) (Kd.zxk (p:=⟨gb200,1,none⟩) (Kd.zxk (p:=⟨gb200,0,none⟩) (Kd.zq9 HO192.out (fun k_ hk=>(⟨hk,hk.2⟩:_∧k_≠gb200))) (fun _ hk=>hk.2) (.string t189)) (fun _ hk=>hk.2) (.slice Ao21 t190.length co21)) (fun _ hk=>hk.2) (.slice Ao22 t193.length co22)) (fun _ hk=>hk.2) (.slice Ao23 t196.length co23)) (fun _ h_=>h_.1))));(case side2=>exact(Kd.zxc HO192.out).2.1);(case side3=>refine(Kd.zxc (e:=3) (base:=w.heap.size) (ok:=fun k_=>(True∧k_≠gb200)) (n:=t193.length) (c:=co22) ?_).2.2;exact(by(with_reducible repeat(first|apply Kd.zxe|apply Kd.zxd|apply Kd.zxt));exact(Kd.zq9 (Kd.zxk (p:=⟨gb200,3,none⟩) (Kd.zxk (p:=⟨gb200,2,none⟩) (Kd.zxk (p:=⟨gb200,1,none⟩) (Kd.zxk (p:=⟨gb200,0,none⟩) (Kd.zq9 HO195.out (fun k_ hk=>(⟨hk,hk.2⟩:_∧k_≠gb200))) (fun _ hk=>hk.2) (.string t189)) (fun _ hk=>hk.2) (.slice Ao21 t190.length co21)) (fun _ hk=>hk.2) (.slice Ao22 t193.length co22)) (fun _ hk=>hk.2) (.slice Ao23 t196.length co23)) (fun _ h_=>h_.1))));(case side4=>exact(Kd.zxc HO195.out).2.1);(case side5=>refine(Kd.zxc (e:=96) (base:=w.heap.size) (ok:=fun k_=>(True∧k_≠gb200)) (n:=t196.length) (c:=co23) ?_).2.2;exact(by(with_reducible repeat(first|apply Kd.zxe|apply Kd.zxd|apply Kd.zxt));exact(Kd.zq9 (Kd.zxk (p:=⟨gb200,3,none⟩) (Kd.zxk (p:=⟨gb200,2,none⟩) (Kd.zxk (p:=⟨gb200,1,none⟩) (Kd.zxk (p:=⟨gb200,0,none⟩) (Kd.zq9 HO198.out (fun k_ hk=>(⟨hk,hk.2⟩:_∧k_≠gb200))) (fun _ hk=>hk.2) (.string t189)) (fun _ hk=>hk.2) (.slice Ao21 t190.length co21)) (fun _ hk=>hk.2) (.slice Ao22 t193.length co22)) (fun _ hk=>hk.2) (.slice Ao23 t196.length co23)) (fun _ h_=>h_.1))));(case side6=>exact(Kd.zxc HO198.out).2.1);(case side7=>exact Kd.zq3 HR2.out (by repeat(first|(with_reducible first|exact HB.out|apply zqb|apply zqa|apply zqc|refine zqi ?_ GE200.out)|exact HB.out)));(case side8=>exact HC2.out);(case side9=>exact LD.below HLD.out (by first|(with_reducible exact Below.refl _ _)|((repeat(first|(with_reducible exact Below.refl _ _)|(with_reducible apply zqb)|(with_reducible apply zqa)|(with_reducible apply zqc)));done)|exact(by repeat(first|(with_reducible first|exact HB.out|apply zqb|apply zqa|apply zqc|refine zqi ?_ GE200.out)|exact HB.out))));rintro e w24 ⟨rfl,hb⟩;refine⟨_,rfl,?_⟩;have n0_:=zqd.mk (Kd.zxw (by(with_reducible repeat(first|apply Kd.zxe|apply Kd.zxd|apply Kd.zxt));exact(Kd.zq9 (Kd.zxk (p:=⟨gb200,3,none⟩) (Kd.zxk (p:=⟨gb200,2,none⟩) (Kd.zxk (p:=⟨gb200,1,none⟩) (Kd.zxk (p:=⟨gb200,0,none⟩) (Kd.zq9 HO192.out (fun k_ hk=>(⟨hk,hk.2⟩:_∧k_≠gb200))) (fun _ hk=>hk.2) (.string t189)) (fun _ hk=>hk.2) (.slice Ao21 t190.length co21)) (fun _ hk=>hk.2) (.slice Ao22 t193.length co22)) (fun _ hk=>hk.2) (.slice Ao23 t196.length co23)) (fun _ h_=>h_.1))) hb);have n1_:=zqd.mk (Kd.zxw (by(with_reducible repeat(first|apply Kd.zxe|apply Kd.zxd|apply Kd.zxt));exact(Kd.zq9 (Kd.zxk (p:=⟨gb200,3,none⟩) (Kd.zxk (p:=⟨gb200,2,none⟩) (Kd.zxk (p:=⟨gb200,1,none⟩) (Kd.zxk (p:=⟨gb200,0,none⟩) (Kd.zq9 HO195.out (fun k_ hk=>(⟨hk,hk.2⟩:_∧k_≠gb200))) (fun _ hk=>hk.2) (.string t189)) (fun _ hk=>hk.2) (.slice Ao21 t190.length co21)) (fun _ hk=>hk.2) (.slice Ao22 t193.length co22)) (fun _ hk=>hk.2) (.slice Ao23 t196.length co23)) (fun _ h_=>h_.1))) hb);have n2_:=zqd.mk (Kd.zxw (by(with_reducible repeat(first|apply Kd.zxe|apply Kd.zxd|apply Kd.zxt));exact(Kd.zq9 (Kd.zxk (p:=⟨gb200,3,none⟩) (Kd.zxk (p:=⟨gb200,2,none⟩) (Kd.zxk (p:=⟨gb200,1,none⟩) (Kd.zxk (p:=⟨gb200,0,none⟩) (Kd.zq9 HO198.out (fun k_ hk=>(⟨hk,hk.2⟩:_∧k_≠gb200))) (fun _ hk=>hk.2) (.string t189)) (fun _ hk=>hk.2) (.slice Ao21 t190.length co21)) (fun _ hk=>hk.2) (.slice Ao22 t193.length co22)) (fun _ hk=>hk.2) (.slice Ao23 t196.length co23)) (fun _ h_=>h_.1))) hb);have n3_:=zqd.mk (zqr (g:=gb200) (o:=.cells #[.string t189,.slice Ao21 t190.length co21,.slice Ao22 t193.length co22,.slice Ao23 t196.length co23] 61 (0,0)) (by(with_reducible repeat(first|refine zqg ?_ _|refine zqj ?_|refine zqh ?_ _));refine zqu (cs:=#[.string t189,.slice Ao21 t190.length co21,.slice Ao22 t193.length co22,.slice none 0 0]) ?_ 3 _ rfl;(with_reducible repeat(first|refine zqg ?_ _|refine zqj ?_|refine zqh ?_ _));refine zqu (cs:=#[.string t189,.slice Ao21 t190.length co21,.slice none 0 0,.slice none 0 0]) ?_ 2 _ rfl;(with_reducible repeat(first|refine zqg ?_ _|refine zqj ?_|refine zqh ?_ _));refine zqu (cs:=#[.string t189,.slice none 0 0,.slice none 0 0,.slice none 0 0]) ?_ 1 _ rfl;(with_reducible repeat(first|refine zqg ?_ _|refine zqj ?_|refine zqh ?_ _));refine zqu (cs:=#[.string (⟨#[]⟩:ByteArray),.slice none 0 0,.slice none 0 0,.slice none 0 0]) ?_ 0 _ rfl;(with_reducible repeat(first|refine zqg ?_ _|refine zqj ?_|refine zqh ?_ _));exact BK200.out) hb);have n4_:=zqd.mk (zqn (by repeat(first|(with_reducible first|exact HB.out|apply zqb|apply zqa|apply zqc|refine zqi ?_ GE200.out)|exact HB.out)) hb);clear HO192 HO195 HO198 BK200 HB;have HO192:=n0_;have HO195:=n1_;have HO198:=n2_;have BK200:=n3_;have HB:=n4_;clear n0_ n1_ n2_ n3_ n4_;(try clear hb);(try clear hb2);(try clear hk);(try clear hi)))
   go_ret2
   exact⟨_,by first|rfl|(simp [zqm,zql] <;> rfl)|(simp [*,zqm,zql] <;> rfl),by first|exact Kd.S_nil _ _ _ _ _|exact Kd.N_nil _ _ _ _ _|exact Kd.V_nil _ _ _ _ _|exact Kd.Q_nil _ _ _ _ _|exact Kd.R_nil _ _ _ _ _,by repeat(first|(with_reducible first|exact HB.out|apply zqb|apply zqa|apply zqc|refine zqi ?_ GE200.out)|exact HB.out)⟩
 ·rw [if_neg c5] at H
  have c5b0:(t199 == 0)=false:=beq_eq_false_iff_ne.mpr c5
  have c5b1:(t199 != 0)=true:=bne_iff_ne.mpr c5
  simp only [Option.some.injEq,Prod.mk.injEq] at H
  obtain ⟨rfl,rfl⟩:=H
  go_enter Tryd.func10,Tryd.ntmps10
  go_wp2_with (first|((with_reducible refine zqv (f:=28) rfl ?_);refine zq8 (some 13) rfl rfl Tryd.func28 (by kernel_rfl) rfl #[.slice A0 l0.length c0,.int .i64 a1] rfl (by(try simp only [List.map_toArray,List.map_cons,List.map_nil]);first|done|rfl|(simp only [List.length_drop,List.length_take];rfl)) ?_;(with_reducible refine(zxv.calls k (fun k_=>k_<w.heap.size) _ _ l0 a1 t189 t190 t193 t196 t199 _ ?side1 ?side2 A4.out).mono ?_);(case side1=>exact Kd.V_mk HC0.out (Kd.F_below (Kd.C_F k61_heap HR0.out) (by repeat(first|(with_reducible first|exact HB.out|apply zqb|apply zqa|apply zqc)|exact HB.out))));(case side2=>exact LD.below HLD.out (by first|(with_reducible exact Below.refl _ _)|((repeat(first|(with_reducible exact Below.refl _ _)|(with_reducible apply zqb)|(with_reducible apply zqa)|(with_reducible apply zqc)));done)|exact(by repeat(first|(with_reducible first|exact HB.out|apply zqb|apply zqa|apply zqc)|exact HB.out))));rintro e w25 ⟨v191,v194,v197,rfl,ho0,ho1,ho2,hb⟩;refine⟨_,rfl,?_⟩;have n0_:=zqd.mk (Kd.V_lower (Kd.zq9 (ok':=fun k_=>True) ho0 (fun k_ hk_=>trivial)) (zqk (by repeat(first|(with_reducible first|exact HB.out|apply zqb|apply zqa|apply zqc)|exact HB.out))));have n1_:=zqd.mk (Kd.V_lower (Kd.zq9 (ok':=fun k_=>True) ho1 (fun k_ hk_=>trivial)) (zqk (by repeat(first|(with_reducible first|exact HB.out|apply zqb|apply zqa|apply zqc)|exact HB.out))));have n2_:=zqd.mk (Kd.V_lower (Kd.zq9 (ok':=fun k_=>True) ho2 (fun k_ hk_=>trivial)) (zqk (by repeat(first|(with_reducible first|exact HB.out|apply zqb|apply zqa|apply zqc)|exact HB.out))));have n3_:=zqd.mk (zqn (by repeat(first|(with_reducible first|exact HB.out|apply zqb|apply zqa|apply zqc)|exact HB.out)) hb);clear HB;have HO192:=n0_;have HO195:=n1_;have HO198:=n2_;have HB:=n3_;clear n0_ n1_ n2_ n3_;(try clear hb);(try clear hb2);(try clear hk);(try clear hi);(try clear ho0);(try clear ho1);(try clear ho2))|((with_reducible refine zqx (N:=8) rfl ?_);refine zqt ?hg (N:=8) ?hd (cs:=#[.string (⟨#[]⟩:ByteArray),.slice none 0 0,.slice none 0 0,.slice none 0 0]) (t:=61) ?hr ?_;(case hd=>rfl);(case hg=>rfl);(case hr=>first|(go_simp;done)|(go_simp;rfl));intro gb200 hg w26 hbox hb;have n0_:=zqd.mk (Kd.zxw (Kd.zkd (by(with_reducible repeat(first|apply Kd.zxe|apply Kd.zxd|apply Kd.zxt));exact HO192.out) gb200 (Nat.le_of_eq hg.symm)) hb);have n1_:=zqd.mk (Kd.zxw (Kd.zkd (by(with_reducible repeat(first|apply Kd.zxe|apply Kd.zxd|apply Kd.zxt));exact HO195.out) gb200 (Nat.le_of_eq hg.symm)) hb);have n2_:=zqd.mk (Kd.zxw (Kd.zkd (by(with_reducible repeat(first|apply Kd.zxe|apply Kd.zxd|apply Kd.zxt));exact HO198.out) gb200 (Nat.le_of_eq hg.symm)) hb);have n3_:=zqd.mk (zqn (by repeat(first|(with_reducible first|exact HB.out|apply zqb|apply zqa|apply zqc)|exact HB.out)) hb);have n4_:=zqd.mk (hbox);have n5_:=zqd.mk ((by rw [hg];exact(zqk (by repeat(first|(with_reducible first|exact HB.out|apply zqb|apply zqa|apply zqc)|exact HB.out))):w.heap.size≤gb200));have n6_:=zqd.mk ((by rw [hg];exact(zqk (by repeat(first|(with_reducible first|exact HB.out|apply zqb|apply zqa|apply zqc)|exact HB.out))):w.heap.size≤gb200));clear HO192 HO195 HO198 HB;have HO192:=n0_;have HO195:=n1_;have HO198:=n2_;have HB:=n3_;have BK200:=n4_;have GW200:=n5_;have GE200:=n6_;clear n0_ n1_ n2_ n3_ n4_ n5_ n6_ hb hbox hg;have hcz27_0:w26.cell? ⟨gb200,0,none⟩=some (.string (⟨#[]⟩:ByteArray)):=(zqf BK200.out 0).trans rfl;have hcz27_1:w26.cell? ⟨gb200,1,none⟩=some (.slice none 0 0):=(zqf BK200.out 1).trans rfl;have hcz27_2:w26.cell? ⟨gb200,2,none⟩=some (.slice none 0 0):=(zqf BK200.out 2).trans rfl;have hcz27_3:w26.cell? ⟨gb200,3,none⟩=some (.slice none 0 0):=(zqf BK200.out 3).trans rfl;have hfz27_0:=zqe BK200.out 0;have hfz27_1:=zqe BK200.out 1;have hfz27_2:=zqe BK200.out 2;have hfz27_3:=zqe BK200.out 3;obtain ⟨Ao28,co28,eo28⟩:=Kd.V_slice HO192.out;subst eo28;obtain ⟨Ao29,co29,eo29⟩:=Kd.V_slice HO195.out;subst eo29;obtain ⟨Ao30,co30,eo30⟩:=Kd.V_slice HO198.out;subst eo30))
  go_ret2
  exact⟨_,by first|rfl|(simp [zqm,zql] <;> rfl)|(simp [*,zqm,zql] <;> rfl),by first|exact Kd.S_nil _ _ _ _ _|exact Kd.N_nil _ _ _ _ _|exact Kd.V_nil _ _ _ _ _|exact Kd.Q_nil _ _ _ _ _|exact Kd.R_nil _ _ _ _ _,by repeat(first|(with_reducible first|exact HB.out|apply zqb|apply zqa|apply zqc|refine zqi ?_ GE200.out)|exact HB.out)⟩

end Go.Proofs.YthhejedfjgikdaaDoor.PRowEntries
