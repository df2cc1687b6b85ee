-- Written by wip/pp of this repo (over the kit's print, with additions of this session); Lean checks every line.
import Derived.Test.YthhejedfjgikdaaDoorPRelProjectsx5
namespace Go.Proofs.YthhejedfjgikdaaDoor.PRelProjects
open Go.RowKit Go.Proofs.YthhejedfjgikdaaDoorW.PrintWords Go.Proofs.YthhejedfjgikdaaDoorW.PrintLast Go.Proofs.YthhejedfjgikdaaDoorW.PrintMore
attribute [local go_sem] zjh zjf zjq zjp zq4 zq3 zjg zje   -- for this text's walks alone
set_option linter.unusedVariables false
set_option linter.unusedSimpArgs false

/-! ### zqn: function 130, by hand -/
-- HAND rounds=0 making=0
def zqn.st (l:List Int):Int × Bool:=l.foldl (fun s t=>(mn s.1 t,s.2 || (decide (t<0) || decide (t > 2)))) (2,false)
def zqn.f (l0:List Int):Option (Int × Int):=some (if(zqn.st l0).2=true then(0,2) else ((zqn.st l0).1,0))
theorem zqn.st_snoc (l:List Int) (t:Int):zqn.st (l ++ [t])=(mn (zqn.st l).1 t,(zqn.st l).2 || (decide (t<0) || decide (t > 2))):=by
  simp [zqn.st,List.foldl_append]
theorem zqn.st_take (l:List Int) (i:Nat) (h:i<l.length):zqn.st (l.take (i+1))=(mn (zqn.st (l.take i)).1 (rd l i),(zqn.st (l.take i)).2 || (decide (rd l i<0) || decide (rd l i > 2))):=by
  rw [List.take_succ_eq_append_getElem h,zqn.st_snoc]
  have e:rd l (i:Int)=l[i]:=by simp [rd,List.getD_eq_getElem?_getD,h]
  rw [e]
theorem zqn.step (a b:Int) (w:World):Calls Tryd.prog 153 #[.int .i64 a,.int .i64 b] w fun e w'=>e = .returned (.int .i64 (mn a b))∧w'=w:=by
  go_enter Tryd.func153,Tryd.ntmps153
  go_wp2
  all_goals go_ret
  · exact⟨by unfold mn;rw [if_pos (by assumption)];rfl,rfl⟩
  exact⟨by unfold mn;rw [if_neg (by omega)];rfl,rfl⟩
theorem zqn.fold (A0:Option Addr) (c0:Nat) (l0:List Int) (w:World) (hr0:Kd.C (Kd.int .i64) w A0 l0.length l0) (hm:l0.length≤9223372036854775807) (z1:Int) (z2:Bool) (hz:Hid (zqn.st l0=(z1,z2))) :
    Calls Tryd.prog 152 #[.int .i64 2,.slice A0 l0.length c0,.func (.func 153) #[] #[]] w fun e w'=>
      e = .returned (.tuple #[.int .i64 (if z2=true then 0 else z1),.int .i64 (if z2=true then 2 else 0)])∧w'=w:=by
  have HR0:=zq.mk hr0
  clear hr0
  go_enter Tryd.func152,Tryd.ntmps152
  go_wp2
  go_loop [8,9,15] (fun o b i => ∃ k:Nat,k≤l0.length∧i = .int .i64 k∧o = .int .i64 (zqn.st (l0.take k)).1∧b = .bool (zqn.st (l0.take k)).2) (fun _ _ i=>l0.length - (intOf i).toNat)
  case atStart=>exact⟨0,by omega,rfl,rfl,rfl⟩
  case round=>
    obtain ⟨k,hk,rfl,rfl,rfl⟩:=hrel
    by_cases hlt:k<l0.length
    · have hs:=zqn.st_take l0 k hlt
      obtain ⟨ad,e1,hc'⟩:=Kd.at_int HR0.out (k:Int) (by omega) (by omega)
      cases e1
      have hc:w.cell? (ad.add k)=some (.int .i64 (rd l0 (k:Int))):=by simpa using hc'
      clear hc'
      generalize zqn.st (l0.take k)=s at *
      generalize rd l0 (k:Int)=t at *
      obtain ⟨s1,s2⟩:=s
      have HS:=Lib.hid hs
      clear hs
      cases s2 with
      | true=>
        go_wp2_with (go_at_call 153;refine(zqn.step _ _ _).mono ?_;rintro e w' ⟨rfl,rfl⟩)
        go_round
        case rel=>exact⟨k+1,by omega,by go_num,by rw [HS.out],by rw [HS.out];rfl⟩
        case measure=>simp [intOf];omega
      | false=>
        by_cases h0:t<0
        · have h1:=decide_eq_true h0
          go_wp2_with (go_at_call 153;refine(zqn.step _ _ _).mono ?_;rintro e w' ⟨rfl,rfl⟩)
          go_round
          case rel=>exact⟨k+1,by omega,by go_num,by rw [HS.out],by rw [HS.out];simp [h1]⟩
          case measure=>simp [intOf];omega
        have h1:=decide_eq_false h0
        by_cases h2:2<t
        · have h3:=decide_eq_true h2
          go_wp2_with (go_at_call 153;refine(zqn.step _ _ _).mono ?_;rintro e w' ⟨rfl,rfl⟩)
          go_round
          case rel=>exact⟨k+1,by omega,by go_num,by rw [HS.out],by rw [HS.out];simp [h1,h3]⟩
          case measure=>simp [intOf];omega
        have h3:=decide_eq_false h2
        go_wp2_with (go_at_call 153;refine(zqn.step _ _ _).mono ?_;rintro e w' ⟨rfl,rfl⟩)
        go_round
        case rel=>exact⟨k+1,by omega,by go_num,by rw [HS.out],by rw [HS.out];simp [h1,h3]⟩
        case measure=>simp [intOf];omega
    have hkl:k=l0.length:=by omega
    subst hkl
    have e:=hz.out
    rw [List.take_length,e]
    clear e
    cases z2 with
    | true=>
      go_wp2
      go_ret2
      exact⟨rfl,rfl⟩
    | false=>
      go_wp2
      go_ret2
      exact⟨rfl,rfl⟩
theorem zqn.calls (A0:Option Addr) (c0:Nat) (l0:List Int) (r1:Int) (r2:Int) (w:World) (hr0:Kd.C (Kd.int .i64) w A0 l0.length l0) (hc0:l0.length≤c0) (h:zqn.f l0=some (r1,r2)) :
    Calls Tryd.prog 130 #[.slice A0 l0.length c0] w fun e w'=>e = .returned (.tuple #[.int .i64 r1,.int .i64 r2])∧zu w w':=by
  obtain ⟨z1,z2,hz⟩:∃ z1 z2,zqn.st l0=(z1,z2):=⟨_,_,rfl⟩
  have HF:=Lib.hid (zqn.fold A0 c0 l0 w hr0 hr0.2.1 z1 z2 (Lib.hid hz))
  have hv:r1=(if z2=true then 0 else z1)∧r2=(if z2=true then 2 else 0):=by
    unfold zqn.f at h
    rw [hz] at h
    have h:=Option.some.inj h
    cases z2 <;> (simp at h;simp [h])
  obtain ⟨rfl,rfl⟩:=hv
  clear h hr0 hz
  generalize (if z2=true then(0:Int) else z1)=u at *
  generalize (if z2=true then(2:Int) else 0)=v at *
  go_enter Tryd.func130,Tryd.ntmps130
  go_wp2_with (go_at_call 152;refine HF.out.mono ?_;rintro e w' ⟨rfl,rfl⟩)
  go_ret2
  exact⟨rfl,zu.refl _⟩

/-! ### zqt: function 131, by hand -/
-- HAND rounds=0 making=0
def zqt.st (l:List Int):Int × Bool:=l.foldl (fun s t=>(mx s.1 t,s.2 || (decide (t<0) || decide (t > 2)))) (0,false)
def zqt.f (l0:List Int):Option (Int × Int):=some (if(zqt.st l0).2=true then(0,2) else ((zqt.st l0).1,0))
theorem zqt.st_snoc (l:List Int) (t:Int):zqt.st (l ++ [t])=(mx (zqt.st l).1 t,(zqt.st l).2 || (decide (t<0) || decide (t > 2))):=by
  simp [zqt.st,List.foldl_append]
theorem zqt.st_take (l:List Int) (i:Nat) (h:i<l.length):zqt.st (l.take (i+1))=(mx (zqt.st (l.take i)).1 (rd l i),(zqt.st (l.take i)).2 || (decide (rd l i<0) || decide (rd l i > 2))):=by
  rw [List.take_succ_eq_append_getElem h,zqt.st_snoc]
  have e:rd l (i:Int)=l[i]:=by simp [rd,List.getD_eq_getElem?_getD,h]
  rw [e]
theorem zqt.step (a b:Int) (w:World):Calls Tryd.prog 154 #[.int .i64 a,.int .i64 b] w fun e w'=>e = .returned (.int .i64 (mx a b))∧w'=w:=by
  go_enter Tryd.func154,Tryd.ntmps154
  go_wp2
  all_goals go_ret
  · exact⟨by unfold mx;rw [if_pos (by assumption)];rfl,rfl⟩
  exact⟨by unfold mx;rw [if_neg (by omega)];rfl,rfl⟩
theorem zqt.fold (A0:Option Addr) (c0:Nat) (l0:List Int) (w:World) (hr0:Kd.C (Kd.int .i64) w A0 l0.length l0) (hm:l0.length≤9223372036854775807) (z1:Int) (z2:Bool) (hz:Hid (zqt.st l0=(z1,z2))) :
    Calls Tryd.prog 152 #[.int .i64 0,.slice A0 l0.length c0,.func (.func 154) #[] #[]] w fun e w'=>
      e = .returned (.tuple #[.int .i64 (if z2=true then 0 else z1),.int .i64 (if z2=true then 2 else 0)])∧w'=w:=by
  have HR0:=zq.mk hr0
  clear hr0
  go_enter Tryd.func152,Tryd.ntmps152
  go_wp2
  go_loop [8,9,15] (fun o b i => ∃ k:Nat,k≤l0.length∧i = .int .i64 k∧o = .int .i64 (zqt.st (l0.take k)).1∧b = .bool (zqt.st (l0.take k)).2) (fun _ _ i=>l0.length - (intOf i).toNat)
  case atStart=>exact⟨0,by omega,rfl,rfl,rfl⟩
  case round=>
    obtain ⟨k,hk,rfl,rfl,rfl⟩:=hrel
    by_cases hlt:k<l0.length
    · have hs:=zqt.st_take l0 k hlt
      obtain ⟨ad,e1,hc'⟩:=Kd.at_int HR0.out (k:Int) (by omega) (by omega)
      cases e1
      have hc:w.cell? (ad.add k)=some (.int .i64 (rd l0 (k:Int))):=by simpa using hc'
      clear hc'
      generalize zqt.st (l0.take k)=s at *
      generalize rd l0 (k:Int)=t at *
      obtain ⟨s1,s2⟩:=s
      have HS:=Lib.hid hs
      clear hs
      cases s2 with
      | true=>
        go_wp2_with (go_at_call 154;refine(zqt.step _ _ _).mono ?_;rintro e w' ⟨rfl,rfl⟩)
        go_round
        case rel=>exact⟨k+1,by omega,by go_num,by rw [HS.out],by rw [HS.out];rfl⟩
        case measure=>simp [intOf];omega
      | false=>
        by_cases h0:t<0
        · have h1:=decide_eq_true h0
          go_wp2_with (go_at_call 154;refine(zqt.step _ _ _).mono ?_;rintro e w' ⟨rfl,rfl⟩)
          go_round
          case rel=>exact⟨k+1,by omega,by go_num,by rw [HS.out],by rw [HS.out];simp [h1]⟩
          case measure=>simp [intOf];omega
        have h1:=decide_eq_false h0
        by_cases h2:2<t
        · have h3:=decide_eq_true h2
          go_wp2_with (go_at_call 154;refine(zqt.step _ _ _).mono ?_;rintro e w' ⟨rfl,rfl⟩)
          go_round
          case rel=>exact⟨k+1,by omega,by go_num,by rw [HS.out],by rw [HS.out];simp [h1,h3]⟩
          case measure=>simp [intOf];omega
        have h3:=decide_eq_false h2
        go_wp2_with (go_at_call 154;refine(zqt.step _ _ _).mono ?_;rintro e w' ⟨rfl,rfl⟩)
        go_round
        case rel=>exact⟨k+1,by omega,by go_num,by rw [HS.out],by rw [HS.out];simp [h1,h3]⟩
        case measure=>simp [intOf];omega
    have hkl:k=l0.length:=by omega
    subst hkl
    have e:=hz.out
    rw [List.take_length,e]
    clear e
    cases z2 with
    | true=>
      go_wp2
      go_ret2
      exact⟨rfl,rfl⟩
    | false=>
      go_wp2
      go_ret2
      exact⟨rfl,rfl⟩
theorem zqt.calls (A0:Option Addr) (c0:Nat) (l0:List Int) (r1:Int) (r2:Int) (w:World) (hr0:Kd.C (Kd.int .i64) w A0 l0.length l0) (hc0:l0.length≤c0) (h:zqt.f l0=some (r1,r2)) :
    Calls Tryd.prog 131 #[.slice A0 l0.length c0] w fun e w'=>e = .returned (.tuple #[.int .i64 r1,.int .i64 r2])∧zu w w':=by
  obtain ⟨z1,z2,hz⟩:∃ z1 z2,zqt.st l0=(z1,z2):=⟨_,_,rfl⟩
  have HF:=Lib.hid (zqt.fold A0 c0 l0 w hr0 hr0.2.1 z1 z2 (Lib.hid hz))
  have hv:r1=(if z2=true then 0 else z1)∧r2=(if z2=true then 2 else 0):=by
    unfold zqt.f at h
    rw [hz] at h
    have h:=Option.some.inj h
    cases z2 <;> (simp at h;simp [h])
  obtain ⟨rfl,rfl⟩:=hv
  clear h hr0 hz
  generalize (if z2=true then(0:Int) else z1)=u at *
  generalize (if z2=true then(2:Int) else 0)=v at *
  go_enter Tryd.func131,Tryd.ntmps131
  go_wp2_with (go_at_call 152;refine HF.out.mono ?_;rintro e w' ⟨rfl,rfl⟩)
  go_ret2
  exact⟨rfl,zu.refl _⟩

/-! ### zk: function 68, by hand -/
-- HAND rounds=1 making=1 laid=1 func=1 alone=1 after=128 after=107 after=130 after=131 after=46 after=132 after=133 imports=Derived.Deep.QuietTactic,Derived.BigQuiet,Derived.Deep.RegionHeld3,Derived.Deep.RegionWith
def zk.v (p:Int × Int × ByteArray × Int):S38:=⟨p.1,p.2.1,p.2.2.1⟩
def zk.rest (f:S41→Option (Int × Int × ByteArray × Int)) (mk:S38→S38→Option (Int × Int × ByteArray × Int)):Nat→S38→S38→List S41→Option (Int × Int × ByteArray × Int)
  | _,a,b, []=>mk a b
  | i,a,b,s :: r=>if 2≤i then none else (f s).bind fun p=>if p.2.2.2=0 then zk.rest f mk (i+1) (if i=0 then zk.v p else a) (if i=0 then b else zk.v p) r else some p
def zk.lz (f:S41→Option (Int × Int × ByteArray × Int)) (k:Nat) (z:Int) (fold:List Int→Option (Int × Int)):Nat→Int→Int→List S41→Option (Int × Int × ByteArray × Int)
  | _,a,b, []=>(fold [a,b]).bind fun q=>zqz.f k q.1 q.2
  | i,a,b,s :: r=>if 2≤i then none else (f s).bind fun p=>if p.2.2.2=0 then(zq0.f k p.1 p.2.1 p.2.2.1).bind fun q=>if q.2=0 then(if i=0∧q.1=z then zqp.f k z else zk.lz f k z fold (i+1) (if i=0 then q.1 else a) (if i=0 then b else q.1) r) else some (0,0,⟨#[]⟩,q.2) else some p
def zk.ev (row:List S38) (k:Nat):Nat→S41→Option (Int × Int × ByteArray × Int)
  | 0,_=>none
  | n+1,e=>if e.f0=3 then(if 0≤e.f4∧e.f4<row.length then some ((qe row e.f4).f0,(qe row e.f4).f1,(qe row e.f4).f2,0) else none) else if e.f0=1 then some (e.f1.f0,e.f1.f1,e.f1.f2,0) else
      if e.f0=19 then zk.lz (zk.ev row k n) k 0 zqn.f 0 0 0 e.f5 else if e.f0=20 then zk.lz (zk.ev row k n) k 2 zqt.f 0 0 0 e.f5 else
      zk.rest (zk.ev row k n) (zm.of k e.f0) 0 ⟨0,0,⟨#[]⟩⟩ ⟨0,0,⟨#[]⟩⟩ e.f5
def zk.f (_k:Nat) (_a:Int):Option Bool:=none
theorem zk.mono:∀ a0 k,LeO (zk.f k a0) (zk.f (k+1) a0):=fun _ _=>LeO.refl _
theorem zk.mono_rest {f g:S41→Option (Int × Int × ByteArray × Int)} {m m':S38→S38→Option (Int × Int × ByteArray × Int)} (hf:∀ x,LeO (f x) (g x)) (hm:∀ x y,LeO (m x y) (m' x y)):∀ l i a b,LeO (zk.rest f m i a b l) (zk.rest g m' i a b l)
  | [],_,a,b=>hm a b
  | s :: r,i,a,b=>by
    unfold zk.rest
    exact LeO.ite (LeO.refl _) (LeO.bind (hf s) (fun p=>LeO.ite (zk.mono_rest hf hm r _ _ _) (LeO.refl _)))
theorem zk.mono_lz {f g:S41→Option (Int × Int × ByteArray × Int)} (k:Nat) (z:Int) (fold:List Int→Option (Int × Int)) (hf:∀ x,LeO (f x) (g x)):∀ l i a b,LeO (zk.lz f k z fold i a b l) (zk.lz g (k+1) z fold i a b l)
  | [],_,a,b=>LeO.bind (LeO.refl _) (fun q=>zqz.mono _ _ _)
  | s :: r,i,a,b=>by
    unfold zk.lz
    exact LeO.ite (LeO.refl _) (LeO.bind (hf s) (fun p=>LeO.ite (LeO.bind (zq0.mono _ _ _ _) (fun q=>LeO.ite (LeO.ite (zqp.mono _ _) (zk.mono_lz k z fold hf r _ _ _)) (LeO.refl _))) (LeO.refl _)))
theorem zk.mono_ev (row:List S38) (k:Nat):∀ n e,LeO (zk.ev row k n e) (zk.ev row (k+1) n e)
  | 0,_=>LeO.refl _
  | n+1,e=>by
    unfold zk.ev
    have ih:=zk.mono_ev row k n
    exact LeO.ite (LeO.refl _) (LeO.ite (LeO.refl _) (LeO.ite (zk.mono_lz _ _ _ ih _ _ _ _) (LeO.ite (zk.mono_lz _ _ _ ih _ _ _ _) (zk.mono_rest ih (fun x y=>zm.mono_of _ _ _ _) _ _ _ _))))
def zk.Env (row:List S38) (g:Nat) (w:World):Prop:=LD w ∧ ∃ A c,w.cell? ⟨g,0,none⟩=some (.slice A row.length c)∧Kd.C k38 w A row.length row
theorem zk.Env.ld {row:List S38} {g:Nat} {w:World} (h:zk.Env row g w):LD w:=h.1
theorem zk.Env.below {row:List S38} {g:Nat} {w w':World} (h:zk.Env row g w) (hb:Below w.heap.size w w'):zk.Env row g w':=by
  obtain ⟨hL,A,c,h1,h2⟩:=h
  exact⟨LD.below hL hb,A,c,qq hb h1,Kd.zqj h2 hb⟩
abbrev zk.w0 (e:S41) (A7:Option Addr) (c7:Nat) (w:World):World:=(w.alloc (.cells #[.int .i64 e.f0,.int .i64 e.f1.f0,.int .i64 e.f1.f1,.string e.f1.f2,.string e.f2,.string e.f3,.int .i64 e.f4,.slice A7 e.f5.length c7] 101)).alloc (.cells #[.int .i64 0,.int .i64 0,.string ⟨#[]⟩] 38)
structure zk.Kp (e:S41) (A7:Option Addr) (c7:Nat) (w W:World):Prop where mk :: (c0:W.cell? ⟨w.heap.size,0,none⟩=some (.int .i64 e.f0)) (c1:W.cell? ⟨w.heap.size,1,none⟩=some (.int .i64 e.f1.f0)) (c2:W.cell? ⟨w.heap.size,2,none⟩=some (.int .i64 e.f1.f1)) (c3:W.cell? ⟨w.heap.size,3,none⟩=some (.string e.f1.f2)) (c4:W.cell? ⟨w.heap.size,4,none⟩=some (.string e.f2)) (c5:W.cell? ⟨w.heap.size,5,none⟩=some (.string e.f3)) (c6:W.cell? ⟨w.heap.size,6,none⟩=some (.int .i64 e.f4)) (c7:W.cell? ⟨w.heap.size,7,none⟩=some (.slice A7 e.f5.length c7)) (c8:W.cell? ⟨w.heap.size+1,0,none⟩=some (.int .i64 0)) (c9:W.cell? ⟨w.heap.size+1,1,none⟩=some (.int .i64 0)) (c10:W.cell? ⟨w.heap.size+1,2,none⟩=some (.string ⟨#[]⟩)) (c11:W.frozen? ⟨w.heap.size+1,0,none⟩=false) (c12:W.frozen? ⟨w.heap.size+1,1,none⟩=false) (c13:W.frozen? ⟨w.heap.size+1,2,none⟩=false) (c14:w.heap.size<W.heap.size) (c15:w.heap.size+1<W.heap.size)
theorem zk.zq6 {e:S41} {A7:Option Addr} {c7:Nat} {w:World} : (zk.w0 e A7 c7 w).heap.size=w.heap.size+1+1:=by simp [zk.w0]
theorem zk.hz {e:S41} {A7:Option Addr} {c7:Nat} {w W:World} (hb:Below (zk.w0 e A7 c7 w).heap.size (zk.w0 e A7 c7 w) W):W.heap[w.heap.size+1]? = some (.cells #[.int .i64 0,.int .i64 0,.string ⟨#[]⟩] 38 (0,0)):=by
  have q_:(w.alloc (.cells #[.int .i64 e.f0,.int .i64 e.f1.f0,.int .i64 e.f1.f1,.string e.f1.f2,.string e.f2,.string e.f3,.int .i64 e.f4,.slice A7 e.f5.length c7] 101)).heap.size=w.heap.size+1:=by simp
  have h:=zj5 (w.alloc (.cells #[.int .i64 e.f0,.int .i64 e.f1.f0,.int .i64 e.f1.f1,.string e.f1.f2,.string e.f2,.string e.f3,.int .i64 e.f4,.slice A7 e.f5.length c7] 101)) (.cells #[.int .i64 0,.int .i64 0,.string ⟨#[]⟩] 38)
  rw [q_] at h
  exact za h hb
theorem zk.hr {e:S41} {A7:Option Addr} {c7:Nat} {w W:World} (hb:Below (zk.w0 e A7 c7 w).heap.size (zk.w0 e A7 c7 w) W):Below w.heap.size w W:=by
  have h0:Below w.heap.size w (zk.w0 e A7 c7 w):=zp (zp (Below.refl _ _) _) _
  exact h0.trans (hb.mono h0.size)
theorem zk.kp {e:S41} {A7:Option Addr} {c7:Nat} {w W:World} (hb:Below (zk.w0 e A7 c7 w).heap.size (zk.w0 e A7 c7 w) W):zk.Kp e A7 c7 w W:=by
  have hs:=hb.size
  rw [zk.zq6] at hs
  exact⟨qq hb (by simp [go_sem]),qq hb (by simp [go_sem]),qq hb (by simp [go_sem]),qq hb (by simp [go_sem]),qq hb (by simp [go_sem]),qq hb (by simp [go_sem]),qq hb (by simp [go_sem]),qq hb (by simp [go_sem]),qq hb (by simp [go_sem]),qq hb (by simp [go_sem]),qq hb (by simp [go_sem]),qy (zk.hz hb) 0,qy (zk.hz hb) 1,qy (zk.hz hb) 2,by omega,by omega⟩
theorem zk.new1 (W:World) (o o2:Obj):((W.alloc o).alloc o2).heap[W.heap.size+1]? = some o2:=by
  have q_:(W.alloc o).heap.size=W.heap.size+1:=by simp
  have h:=zj5 (W.alloc o) o2
  rwa [q_] at h
set_option maxRecDepth 100000 in
set_option maxHeartbeats 4000000 in
theorem zk.of_no (e:S41) (A7:Option Addr) (c7 g:Nat) (w:World) (h3:e.f0≠3) :
    Calls Tryd.prog 69 #[.agg #[.int .i64 e.f0,.int .i64 e.f1.f0,.int .i64 e.f1.f1,.string e.f1.f2,.string e.f2,.string e.f3,.int .i64 e.f4,.slice A7 e.f5.length c7],.pointer (some ⟨g,0,none⟩)] w fun r w'=>r = .returned (.tuple #[.agg #[.int .i64 0,.int .i64 0,.string ⟨#[]⟩],.int .i64 0,.bool false])∧Below w.heap.size w w':=by
  have huv:=Tryd.underlying38
  have d3:(e.f0 != 3)=true:=by simpa using h3
  have hz:((w.alloc (.cells #[.int .i64 e.f0,.int .i64 e.f1.f0,.int .i64 e.f1.f1,.string e.f1.f2,.string e.f2,.string e.f3,.int .i64 e.f4,.slice A7 e.f5.length c7] 41)).alloc (.cells #[.int .i64 0,.int .i64 0,.string ⟨#[]⟩] 38)).heap[w.heap.size+1]? = some (.cells #[.int .i64 0,.int .i64 0,.string ⟨#[]⟩] 38 (0,0)):=by
    have q_:(w.alloc (.cells #[.int .i64 e.f0,.int .i64 e.f1.f0,.int .i64 e.f1.f1,.string e.f1.f2,.string e.f2,.string e.f3,.int .i64 e.f4,.slice A7 e.f5.length c7] 41)).heap.size=w.heap.size+1:=by simp
    have h:=zj5 (w.alloc (.cells #[.int .i64 e.f0,.int .i64 e.f1.f0,.int .i64 e.f1.f1,.string e.f1.f2,.string e.f2,.string e.f3,.int .i64 e.f4,.slice A7 e.f5.length c7] 41)) (.cells #[.int .i64 0,.int .i64 0,.string ⟨#[]⟩] 38)
    rwa [q_] at h
  have HZ:=zq.mk hz
  clear h3 hz
  go_enter Tryd.func69,Tryd.ntmps69
  go_wp2
  have HVX:=HZ.out
  refine bodyPost_ret (qg (rs := [.cell 3 38,.tmp 4,.tmp 5]) rfl (by simp) (.cell (w.heap.size+1) 38 _ (0,0) _ rfl HVX huv rfl (by kernel_rfl) (.tmp (.tmp .nil)))) rfl ?_
  exact⟨rfl,zp (zp (Below.refl _ _) _) _⟩
theorem zk.vat {w:World} {A:Option Addr} {l:List S38} (h:Kd.C k38 w A l.length l) (i:Int) (h0:0≤i) (h1:i<l.length):∃ b o,A=some ⟨b,o,none⟩∧w.cell? ⟨b,o+i.toNat * 3,none⟩=some (.int .i64 (qe l i).f0)∧w.cell? ⟨b,o+i.toNat * 3+1,none⟩=some (.int .i64 (qe l i).f1)∧w.cell? ⟨b,o+i.toNat * 3+2,none⟩=some (.string (qe l i).f2):=by
  have spot:∀ ad:Addr,(∃ v,w.cell? ad=some v)→ad.spot=none:=by
    rintro ⟨b,o,sp⟩ ⟨v,hv⟩
    cases sp with
    | none=>rfl
    | some s=>
      exfalso
      unfold World.cell? at hv
      split at hv
      · simp at hv
      cases hv
  obtain ⟨ad,rfl,g0,_⟩:=zj6 h 0 (by omega) (by omega)
  have hs:ad.spot=none:=by
    rw [show ad.add ((0:Int).toNat * 3)=ad from by simp [Addr.add]] at g0
    exact spot _ ⟨_,g0⟩
  obtain ⟨b,o,sp⟩:=ad
  dsimp only at hs
  subst hs
  refine⟨b,o,rfl,?_⟩
  obtain ⟨ad,e,g0,g1,g2⟩:=zj6 h i h0 h1
  cases e
  have ha:(⟨b,o,none⟩:Addr).add (i.toNat * 3)=⟨b,o+i.toNat * 3,none⟩:=by unfold Addr.add;split <;> simp_all
  rw [ha] at g0 g1 g2
  exact⟨g0,g1,g2⟩
set_option maxRecDepth 100000 in
set_option maxHeartbeats 4000000 in
theorem zk.of_yes (row:List S38) (e:S41) (A7:Option Addr) (c7 g:Nat) (w:World) (he:zk.Env row g w) (h3:e.f0=3) (h0:0≤e.f4) (h1:e.f4<row.length) :
    Calls Tryd.prog 69 #[.agg #[.int .i64 e.f0,.int .i64 e.f1.f0,.int .i64 e.f1.f1,.string e.f1.f2,.string e.f2,.string e.f3,.int .i64 e.f4,.slice A7 e.f5.length c7],.pointer (some ⟨g,0,none⟩)] w fun r w'=>r = .returned (.tuple #[.agg #[.int .i64 (qe row e.f4).f0,.int .i64 (qe row e.f4).f1,.string (qe row e.f4).f2],.int .i64 0,.bool true])∧Below w.heap.size w w':=by
  have huv:=Tryd.underlying38
  have d3:(e.f0 != 3)=false:=by simpa using h3
  obtain ⟨_,A,c,hg,hc⟩:=he
  obtain ⟨b,o,rfl,c0,c1,c2⟩:=zk.vat hc e.f4 h0 h1
  have hgl:g<w.heap.size:=World.block_lt_of_cell? w _ hg
  have hbl:b<w.heap.size:=World.block_lt_of_cell? w _ c0
  have hm:=hc.2.1
  obtain ⟨i,hi⟩:∃ i:Nat,e.f4=i:=⟨e.f4.toNat,by omega⟩
  generalize qe row e.f4=x at *
  rw [hi,Int.toNat_natCast] at c0 c1 c2
  have hil:i<row.length:=by omega
  obtain ⟨e0,e1,e2,e3,e4,e5⟩:=e
  dsimp only at *
  subst hi
  clear h3 hc h0 h1
  go_enter Tryd.func69,Tryd.ntmps69
  go_wp2
  have HVX:=zk.new1 w (.cells #[.int .i64 e0,.int .i64 e1.f0,.int .i64 e1.f1,.string e1.f2,.string e2,.string e3,.int .i64 i,.slice A7 e5.length c7] 41) (.cells #[.int .i64 x.f0,.int .i64 x.f1,.string x.f2] 38)
  refine bodyPost_ret (qg (rs := [.cell 3 38,.tmp 4,.tmp 5]) rfl (by simp) (.cell (w.heap.size+1) 38 _ (0,0) _ rfl HVX huv rfl (by kernel_rfl) (.tmp (.tmp .nil)))) rfl ?_
  exact⟨rfl,zp (zp (Below.refl _ _) _) _⟩
theorem zk.made (row:List S38) (A:Option Addr) (n c:Nat) (w:World):Calls Tryd.prog 40 #[.slice A n c] w fun x w'=>x = .returned (.func (.func 69) #[] #[.pointer (some ⟨w.heap.size,0,none⟩)])∧w'=w.alloc (.cells #[.slice A n c] 23):=by
  go_enter Tryd.func40,Tryd.ntmps40
  go_wp2
  go_ret
  exact⟨rfl,rfl⟩
theorem zk.zxw (W:World) (a b:Int):Kd.C (Kd.int .i64) (W.alloc (.cells #[.int .i64 a,.int .i64 b] 3)) (some ⟨W.heap.size,0,none⟩) 2 [a,b]:=by
  refine⟨rfl,by decide,fun _=>⟨_,rfl,fun j p hj=>⟨[.int .i64 p],rfl,rfl,fun i u hu=>?_⟩⟩⟩
  obtain ⟨rfl,rfl⟩:i=0 ∧ .int .i64 p=u:=by
    cases i with
    | zero=>exact⟨rfl,by simpa using hu⟩
    | succ i=>simp at hu
  match j,hj with
  | 0,hj=>
    obtain rfl:a=p:=by simpa using hj
    simp [go_sem,Addr.add,Kd.int,Kd.scalar]
  | 1,hj=>
    obtain rfl:b=p:=by simpa using hj
    simp [go_sem,Addr.add,Kd.int,Kd.scalar]
  | j+2,hj=>simp at hj
set_option maxRecDepth 100000 in
set_option maxHeartbeats 16000000 in
theorem zk.lazy_19 (row:List S38) (k:Nat) (f:S41→Option (Int × Int × ByteArray × Int)) (g:Nat) (hi:∀ (x:S41) (A8:Option Addr) (c8:Nat) (q1 q2:Int) (q3:ByteArray) (q4:Int) (W:World),zk.Env row g W→Kd.C k41 W A8 x.f5.length x.f5→x.f5.length≤c8→f x=some (q1,q2,q3,q4)→Calls Tryd.prog 68 #[.agg #[.int .i64 x.f0,.int .i64 x.f1.f0,.int .i64 x.f1.f1,.string x.f1.f2,.string x.f2,.string x.f3,.int .i64 x.f4,.slice A8 x.f5.length c8],.func (.func 69) #[] #[.pointer (some ⟨g,0,none⟩)]] W fun e w'=>e = .returned (.tuple #[.agg #[.int .i64 q1,.int .i64 q2,.string q3],.int .i64 q4])∧Below W.heap.size W w')
    (e:S41) (A7:Option Addr) (c7:Nat) (r1 r2:Int) (r3:ByteArray) (r4:Int) (w:World) (he:zk.Env row g w) (hr:Kd.C k41 w A7 e.f5.length e.f5) (hc:e.f5.length≤c7) (ho:e.f0=19) (h:zk.lz f k 0 zqn.f 0 0 0 e.f5=some (r1,r2,r3,r4)) :
    Calls Tryd.prog 106 #[.agg #[.int .i64 e.f0,.int .i64 e.f1.f0,.int .i64 e.f1.f1,.string e.f1.f2,.string e.f2,.string e.f3,.int .i64 e.f4,.slice A7 e.f5.length c7],.func (.func 69) #[] #[.pointer (some ⟨g,0,none⟩)]] w fun e w'=>e = .returned (.tuple #[.agg #[.int .i64 r1,.int .i64 r2,.string r3],.int .i64 r4])∧Below w.heap.size w w':=by
  have huv:=Tryd.underlying38
  have hm:=hr.2.1
  have d20:(e.f0 == 20)=false:=by simp [ho]
  have HE:=zq.mk he
  have HRR:=zq.mk hr
  have HII:=zq.mk hi
  have HS:=zq.mk h
  clear he hr hi ho h
  go_enter Tryd.func106,Tryd.ntmps106
  go_wp2
  go_loopw [19] (fun i wr => ∃ j:Nat,j≤e.f5.length∧i = .int .i64 j ∧ ∃ a b:Int,zq (zk.lz f k 0 zqn.f j a b (e.f5.drop j)=some (r1,r2,r3,r4))∧zq (Below (zk.w0 e A7 c7 w).heap.size (zk.w0 e A7 c7 w) wr)∧zq (wr.heap[w.heap.size+1+1]? = some (.cells #[.int .i64 a,.int .i64 b] 165 (0,0)))) (fun i _=>e.f5.length - (intOf i).toNat)
  case atStart=>exact⟨0,by omega,rfl,0,0,⟨by rw [List.drop_zero];exact HS.out⟩,⟨zp (Below.refl _ _) _⟩,⟨by have h:=zj5 (zk.w0 e A7 c7 w) (.cells #[.int .i64 0,.int .i64 0] 165);rwa [zk.zq6] at h⟩⟩
  case round=>
    clear HS
    obtain ⟨j,hj,rfl,a,b,HS,HB,HG⟩:=hrel
    by_cases hlt:j<e.f5.length
    · cases zk.kp HB.out
      have hgl:=qi HG.out
      obtain ⟨bb,oo,rfl,hcs⟩:=qj.at_ (Kd.zqj HRR.out (zk.hr HB.out)) (by omega)
      obtain ⟨A8,c8,p0,p1,p2,p3,p4,p5,p6,p7,l8,r8⟩:=hcs j hlt
      have hs:=HS.out
      rw [List.drop_eq_getElem_cons hlt,zk.lz] at hs
      by_cases j2:2≤j
      · rw [if_pos j2] at hs;cases hs
      rw [if_neg j2] at hs
      generalize e.f5[j]=x at *
      obtain ⟨⟨q1,q2,q3,q4⟩,hq,ht⟩:=Option.bind_eq_some_iff.1 hs
      clear hs
      dsimp only at ht
      have hs:=ht
      clear ht
      have hba:=zp (Below.refl wr.heap.size wr) (.cells #[.int .i64 x.f0,.int .i64 x.f1.f0,.int .i64 x.f1.f1,.string x.f1.f2,.string x.f2,.string x.f3,.int .i64 x.f4,.slice A8 x.f5.length c8] 41)
      have HCA:=zq.mk (HII.out x A8 c8 q1 q2 q3 q4 _ ((HE.out.below (zk.hr HB.out)).below hba) (Kd.zqj r8 hba) l8 hq)
      have HBA:=zq.mk (zp HB.out (.cells #[.int .i64 x.f0,.int .i64 x.f1.f0,.int .i64 x.f1.f1,.string x.f1.f2,.string x.f2,.string x.f3,.int .i64 x.f4,.slice A8 x.f5.length c8] 41))
      have HGA:=zq.mk (zv HG.out (.cells #[.int .i64 x.f0,.int .i64 x.f1.f0,.int .i64 x.f1.f1,.string x.f1.f2,.string x.f2,.string x.f3,.int .i64 x.f4,.slice A8 x.f5.length c8] 41))
      clear hba hq r8 hcs HS
      by_cases z:q4=0
      · rw [if_pos z] at hs
        subst z
        obtain ⟨⟨u,v⟩,hu,hs⟩:=Option.bind_eq_some_iff.1 hs
        dsimp only at hs
        have HU:=zq.mk hu
        clear hu
        by_cases y:v=0
        · rw [if_pos y] at hs
          subst y
          obtain rfl|rfl:j=0∨j=1:=by omega
          · simp only [Nat.zero_mul,Nat.add_zero] at p0 p1 p2 p3 p4 p5 p6 p7
            by_cases t:u=0
            · rw [if_pos ⟨rfl,t⟩] at hs
              have dt:(u == 0)=true:=by simpa using t
              have HO:=zq.mk hs
              clear hs t
              go_wp2_with (first|(go_at_call 68;(with_reducible refine HCA.out.mono ?_);rintro z w4 ⟨rfl,hb4⟩;have HB4:=zq.mk (HBA.out.trans (hb4.mono HBA.out.size));have HG4:=zq.mk ((hb4.block _ (qi HGA.out)).trans HGA.out);clear hb4;cases zk.kp HB4.out;have hl4:=qi HG4.out;have y4_0:w4.cell? ⟨w.heap.size+1+1,0,none⟩=some (.int .i64 a):=(qw HG4.out 0).trans rfl;have z4_0:=qy HG4.out 0;have y4_1:w4.cell? ⟨w.heap.size+1+1,1,none⟩=some (.int .i64 b):=(qw HG4.out 1).trans rfl;have z4_1:=qy HG4.out 1)|(go_at_call 46;(with_reducible refine(zq0.calls k _ _ _ u _ _ (LD.below HE.out.ld (zk.hr (zp HB4.out _))) HU.out).mono ?_);rintro z w5 ⟨rfl,hb5⟩;have HB5:=zq.mk ((zp HB4.out _).trans (hb5.mono (zp HB4.out _).size));have HG5:=zq.mk ((hb5.block _ (qi (zv HG4.out _))).trans (zv HG4.out _));clear hb5;cases zk.kp HB5.out;have hl5:=qi HG5.out;have y5_0:w5.cell? ⟨w.heap.size+1+1,0,none⟩=some (.int .i64 a):=(qw HG5.out 0).trans rfl;have z5_0:=qy HG5.out 0;have y5_1:w5.cell? ⟨w.heap.size+1+1,1,none⟩=some (.int .i64 b):=(qw HG5.out 1).trans rfl;have z5_1:=qy HG5.out 1)|(go_at_call 132;(with_reducible refine(zqp.calls k _ r1 r2 r3 r4 _ HO.out).mono ?_);rintro z w6 ⟨rfl,hb6⟩;have HB6:=zq.mk ((HB5.out.setCell (p:=⟨w.heap.size+1+1,0,none⟩) (Nat.le_of_eq zk.zq6) _).trans (hb6.mono (HB5.out.setCell (p:=⟨w.heap.size+1+1,0,none⟩) (Nat.le_of_eq zk.zq6) _).size));clear hb6;cases zk.kp HB6.out))
              have HVX:=(zr (zr (zr (zk.hz HB6.out) 0 (.int .i64 r1) rfl) 1 (.int .i64 r2) rfl) 2 (.string r3) rfl)
              refine bodyPost_ret (qg (rs := [.cell 4 38,.tmp 5]) rfl (by simp) (.cell (w.heap.size+1) 38 _ (0,0) _ rfl HVX huv rfl (by kernel_rfl) (.tmp .nil))) rfl ?_
              exact⟨rfl,(((zk.hr HB6.out).setCell (p:=⟨w.heap.size+1,0,none⟩) (by simp <;> omega) _).setCell (p:=⟨w.heap.size+1,1,none⟩) (by simp <;> omega) _).setCell (p:=⟨w.heap.size+1,2,none⟩) (by simp <;> omega) _⟩
            rw [if_neg (fun h_=>t h_.2),if_pos rfl,if_pos rfl] at hs
            have dt:(u == 0)=false:=by simpa using t
            have HS:=zq.mk hs
            clear hs t
            go_wp2_with (first|(go_at_call 68;(with_reducible refine HCA.out.mono ?_);rintro z w4 ⟨rfl,hb4⟩;have HB4:=zq.mk (HBA.out.trans (hb4.mono HBA.out.size));have HG4:=zq.mk ((hb4.block _ (qi HGA.out)).trans HGA.out);clear hb4;cases zk.kp HB4.out;have hl4:=qi HG4.out;have y4_0:w4.cell? ⟨w.heap.size+1+1,0,none⟩=some (.int .i64 a):=(qw HG4.out 0).trans rfl;have z4_0:=qy HG4.out 0;have y4_1:w4.cell? ⟨w.heap.size+1+1,1,none⟩=some (.int .i64 b):=(qw HG4.out 1).trans rfl;have z4_1:=qy HG4.out 1)|(go_at_call 46;(with_reducible refine(zq0.calls k _ _ _ u _ _ (LD.below HE.out.ld (zk.hr (zp HB4.out _))) HU.out).mono ?_);rintro z w5 ⟨rfl,hb5⟩;have HB5:=zq.mk ((zp HB4.out _).trans (hb5.mono (zp HB4.out _).size));have HG5:=zq.mk ((hb5.block _ (qi (zv HG4.out _))).trans (zv HG4.out _));clear hb5;cases zk.kp HB5.out;have hl5:=qi HG5.out;have y5_0:w5.cell? ⟨w.heap.size+1+1,0,none⟩=some (.int .i64 a):=(qw HG5.out 0).trans rfl;have z5_0:=qy HG5.out 0;have y5_1:w5.cell? ⟨w.heap.size+1+1,1,none⟩=some (.int .i64 b):=(qw HG5.out 1).trans rfl;have z5_1:=qy HG5.out 1))
            go_roundw
            case rel=>exact⟨1,by omega,by go_num,u,b,HS,⟨HB5.out.setCell (p:=⟨w.heap.size+1+1,0,none⟩) (Nat.le_of_eq zk.zq6) (.int .i64 u)⟩,⟨zr HG5.out 0 (.int .i64 u) rfl⟩⟩
            case measure=>simp [intOf];omega
          rw [if_neg (fun h_=>by cases h_.1),if_neg (by decide),if_neg (by decide)] at hs
          have HS:=zq.mk hs
          clear hs
          go_wp2_with (first|(go_at_call 68;(with_reducible refine HCA.out.mono ?_);rintro z w4 ⟨rfl,hb4⟩;have HB4:=zq.mk (HBA.out.trans (hb4.mono HBA.out.size));have HG4:=zq.mk ((hb4.block _ (qi HGA.out)).trans HGA.out);clear hb4;cases zk.kp HB4.out;have hl4:=qi HG4.out;have y4_0:w4.cell? ⟨w.heap.size+1+1,0,none⟩=some (.int .i64 a):=(qw HG4.out 0).trans rfl;have z4_0:=qy HG4.out 0;have y4_1:w4.cell? ⟨w.heap.size+1+1,1,none⟩=some (.int .i64 b):=(qw HG4.out 1).trans rfl;have z4_1:=qy HG4.out 1)|(go_at_call 46;(with_reducible refine(zq0.calls k _ _ _ u _ _ (LD.below HE.out.ld (zk.hr (zp HB4.out _))) HU.out).mono ?_);rintro z w5 ⟨rfl,hb5⟩;have HB5:=zq.mk ((zp HB4.out _).trans (hb5.mono (zp HB4.out _).size));have HG5:=zq.mk ((hb5.block _ (qi (zv HG4.out _))).trans (zv HG4.out _));clear hb5;cases zk.kp HB5.out;have hl5:=qi HG5.out;have y5_0:w5.cell? ⟨w.heap.size+1+1,0,none⟩=some (.int .i64 a):=(qw HG5.out 0).trans rfl;have z5_0:=qy HG5.out 0;have y5_1:w5.cell? ⟨w.heap.size+1+1,1,none⟩=some (.int .i64 b):=(qw HG5.out 1).trans rfl;have z5_1:=qy HG5.out 1))
          go_roundw
          case rel=>exact⟨2,by omega,by go_num,a,u,HS,⟨HB5.out.setCell (p:=⟨w.heap.size+1+1,1,none⟩) (Nat.le_of_eq zk.zq6) (.int .i64 u)⟩,⟨zr HG5.out 1 (.int .i64 u) rfl⟩⟩
          case measure=>simp [intOf];omega
        rw [if_neg y] at hs
        obtain ⟨rfl,rfl,rfl,rfl⟩:0=r1∧0=r2∧(⟨#[]⟩:ByteArray)=r3∧v=r4:=by simpa using hs
        have dy:(v != 0)=true:=by simpa using y
        clear hs y
        obtain rfl|rfl:j=0∨j=1:=by omega
        · simp only [Nat.zero_mul,Nat.add_zero] at p0 p1 p2 p3 p4 p5 p6 p7
          go_wp2_with (first|(go_at_call 68;(with_reducible refine HCA.out.mono ?_);rintro z w4 ⟨rfl,hb4⟩;have HB4:=zq.mk (HBA.out.trans (hb4.mono HBA.out.size));have HG4:=zq.mk ((hb4.block _ (qi HGA.out)).trans HGA.out);clear hb4;cases zk.kp HB4.out;have hl4:=qi HG4.out;have y4_0:w4.cell? ⟨w.heap.size+1+1,0,none⟩=some (.int .i64 a):=(qw HG4.out 0).trans rfl;have z4_0:=qy HG4.out 0;have y4_1:w4.cell? ⟨w.heap.size+1+1,1,none⟩=some (.int .i64 b):=(qw HG4.out 1).trans rfl;have z4_1:=qy HG4.out 1)|(go_at_call 46;(with_reducible refine(zq0.calls k _ _ _ u _ _ (LD.below HE.out.ld (zk.hr (zp HB4.out _))) HU.out).mono ?_);rintro z w5 ⟨rfl,hb5⟩;have HB5:=zq.mk ((zp HB4.out _).trans (hb5.mono (zp HB4.out _).size));have HG5:=zq.mk ((hb5.block _ (qi (zv HG4.out _))).trans (zv HG4.out _));clear hb5;cases zk.kp HB5.out;have hl5:=qi HG5.out;have y5_0:w5.cell? ⟨w.heap.size+1+1,0,none⟩=some (.int .i64 a):=(qw HG5.out 0).trans rfl;have z5_0:=qy HG5.out 0;have y5_1:w5.cell? ⟨w.heap.size+1+1,1,none⟩=some (.int .i64 b):=(qw HG5.out 1).trans rfl;have z5_1:=qy HG5.out 1))
          have HVX:=(zr (zr (zr (zk.hz (HB5.out.setCell (p:=⟨w.heap.size+1+1,0,none⟩) (Nat.le_of_eq zk.zq6) (.int .i64 u))) 0 (.int .i64 0) rfl) 1 (.int .i64 0) rfl) 2 (.string ⟨#[]⟩) rfl)
          refine bodyPost_ret (qg (rs := [.cell 4 38,.tmp 5]) rfl (by simp) (.cell (w.heap.size+1) 38 _ (0,0) _ rfl HVX huv rfl (by kernel_rfl) (.tmp .nil))) rfl ?_
          exact⟨rfl,(((zk.hr (HB5.out.setCell (p:=⟨w.heap.size+1+1,0,none⟩) (Nat.le_of_eq zk.zq6) (.int .i64 u))).setCell (p:=⟨w.heap.size+1,0,none⟩) (by simp <;> omega) _).setCell (p:=⟨w.heap.size+1,1,none⟩) (by simp <;> omega) _).setCell (p:=⟨w.heap.size+1,2,none⟩) (by simp <;> omega) _⟩
        go_wp2_with (first|(go_at_call 68;(with_reducible refine HCA.out.mono ?_);rintro z w4 ⟨rfl,hb4⟩;have HB4:=zq.mk (HBA.out.trans (hb4.mono HBA.out.size));have HG4:=zq.mk ((hb4.block _ (qi HGA.out)).trans HGA.out);clear hb4;cases zk.kp HB4.out;have hl4:=qi HG4.out;have y4_0:w4.cell? ⟨w.heap.size+1+1,0,none⟩=some (.int .i64 a):=(qw HG4.out 0).trans rfl;have z4_0:=qy HG4.out 0;have y4_1:w4.cell? ⟨w.heap.size+1+1,1,none⟩=some (.int .i64 b):=(qw HG4.out 1).trans rfl;have z4_1:=qy HG4.out 1)|(go_at_call 46;(with_reducible refine(zq0.calls k _ _ _ u _ _ (LD.below HE.out.ld (zk.hr (zp HB4.out _))) HU.out).mono ?_);rintro z w5 ⟨rfl,hb5⟩;have HB5:=zq.mk ((zp HB4.out _).trans (hb5.mono (zp HB4.out _).size));have HG5:=zq.mk ((hb5.block _ (qi (zv HG4.out _))).trans (zv HG4.out _));clear hb5;cases zk.kp HB5.out;have hl5:=qi HG5.out;have y5_0:w5.cell? ⟨w.heap.size+1+1,0,none⟩=some (.int .i64 a):=(qw HG5.out 0).trans rfl;have z5_0:=qy HG5.out 0;have y5_1:w5.cell? ⟨w.heap.size+1+1,1,none⟩=some (.int .i64 b):=(qw HG5.out 1).trans rfl;have z5_1:=qy HG5.out 1))
        have HVX:=(zr (zr (zr (zk.hz (HB5.out.setCell (p:=⟨w.heap.size+1+1,1,none⟩) (Nat.le_of_eq zk.zq6) (.int .i64 u))) 0 (.int .i64 0) rfl) 1 (.int .i64 0) rfl) 2 (.string ⟨#[]⟩) rfl)
        refine bodyPost_ret (qg (rs := [.cell 4 38,.tmp 5]) rfl (by simp) (.cell (w.heap.size+1) 38 _ (0,0) _ rfl HVX huv rfl (by kernel_rfl) (.tmp .nil))) rfl ?_
        exact⟨rfl,(((zk.hr (HB5.out.setCell (p:=⟨w.heap.size+1+1,1,none⟩) (Nat.le_of_eq zk.zq6) (.int .i64 u))).setCell (p:=⟨w.heap.size+1,0,none⟩) (by simp <;> omega) _).setCell (p:=⟨w.heap.size+1,1,none⟩) (by simp <;> omega) _).setCell (p:=⟨w.heap.size+1,2,none⟩) (by simp <;> omega) _⟩
      rw [if_neg z] at hs
      obtain ⟨rfl,rfl,rfl,rfl⟩:q1=r1∧q2=r2∧q3=r3∧q4=r4:=by simpa using hs
      have dz:(q4 != 0)=true:=by simpa using z
      clear hs z
      go_wp2_with (go_at_call 68;(with_reducible refine HCA.out.mono ?_);rintro z w4 ⟨rfl,hb4⟩;have HB4:=zq.mk (HBA.out.trans (hb4.mono HBA.out.size));have HG4:=zq.mk ((hb4.block _ (qi HGA.out)).trans HGA.out);clear hb4;cases zk.kp HB4.out;have hl4:=qi HG4.out;have y4_0:w4.cell? ⟨w.heap.size+1+1,0,none⟩=some (.int .i64 a):=(qw HG4.out 0).trans rfl;have z4_0:=qy HG4.out 0;have y4_1:w4.cell? ⟨w.heap.size+1+1,1,none⟩=some (.int .i64 b):=(qw HG4.out 1).trans rfl;have z4_1:=qy HG4.out 1)
      have HVX:=zv (zr (zr (zr (zk.hz HB4.out) 0 (.int .i64 q1) rfl) 1 (.int .i64 q2) rfl) 2 (.string q3) rfl) (.cells #[.int .i64 q1,.int .i64 q2,.string q3] 38)
      refine bodyPost_ret (qg (rs := [.cell 4 38,.tmp 5]) rfl (by simp) (.cell (w.heap.size+1) 38 _ (0,0) _ rfl HVX huv rfl (by kernel_rfl) (.tmp .nil))) rfl ?_
      exact⟨rfl,zp ((((zk.hr HB4.out).setCell (p:=⟨w.heap.size+1,0,none⟩) (by simp) _).setCell (p:=⟨w.heap.size+1,1,none⟩) (by simp) _).setCell (p:=⟨w.heap.size+1,2,none⟩) (by simp) _) _⟩
    obtain rfl:j=e.f5.length:=by omega
    have hs:=HS.out
    rw [List.drop_length,zk.lz] at hs
    obtain ⟨⟨u,v⟩,hu,hs⟩:=Option.bind_eq_some_iff.1 hs
    have HF:zq (Calls Tryd.prog 130 #[.slice (some ⟨wr.heap.size,0,none⟩) 2 2] (wr.alloc (.cells #[.int .i64 a,.int .i64 b] 3)) fun e w'=>e = .returned (.tuple #[.int .i64 u,.int .i64 v])∧zu (wr.alloc (.cells #[.int .i64 a,.int .i64 b] 3)) w'):=⟨zqn.calls (some ⟨wr.heap.size,0,none⟩) 2 [a,b] u v _ (zk.zxw wr a b) (Nat.le_refl _) hu⟩
    have HT:=zq.mk hs
    have hl:=qi HG.out
    have y0:wr.cell? ⟨w.heap.size+1+1,0,none⟩=some (.int .i64 a):=(qw HG.out 0).trans rfl
    have y1:wr.cell? ⟨w.heap.size+1+1,1,none⟩=some (.int .i64 b):=(qw HG.out 1).trans rfl
    clear HS hs hu
    go_wp2_with (first|(go_at_call 130;(with_reducible refine HF.out.mono ?_);rintro z w4 ⟨rfl,hd⟩;have HB4:=zq.mk ((zp HB.out _).trans (hd.below.mono (zp HB.out _).size));clear hd;cases zk.kp HB4.out)|(go_at_call 133;(with_reducible refine(zqz.calls k _ _ r1 r2 r3 r4 _ HT.out).mono ?_);rintro z w5 ⟨rfl,hb5⟩;have HB5:=zq.mk (HB4.out.trans (hb5.mono HB4.out.size));clear hb5;cases zk.kp HB5.out))
    have HVX:=(zr (zr (zr (zk.hz HB5.out) 0 (.int .i64 r1) rfl) 1 (.int .i64 r2) rfl) 2 (.string r3) rfl)
    refine bodyPost_ret (qg (rs := [.cell 4 38,.tmp 5]) rfl (by simp) (.cell (w.heap.size+1) 38 _ (0,0) _ rfl HVX huv rfl (by kernel_rfl) (.tmp .nil))) rfl ?_
    exact⟨rfl,(((zk.hr HB5.out).setCell (p:=⟨w.heap.size+1,0,none⟩) (by simp <;> omega) _).setCell (p:=⟨w.heap.size+1,1,none⟩) (by simp <;> omega) _).setCell (p:=⟨w.heap.size+1,2,none⟩) (by simp <;> omega) _⟩
set_option maxRecDepth 100000 in
set_option maxHeartbeats 16000000 in
theorem zk.lazy_20 (row:List S38) (k:Nat) (f:S41→Option (Int × Int × ByteArray × Int)) (g:Nat) (hi:∀ (x:S41) (A8:Option Addr) (c8:Nat) (q1 q2:Int) (q3:ByteArray) (q4:Int) (W:World),zk.Env row g W→Kd.C k41 W A8 x.f5.length x.f5→x.f5.length≤c8→f x=some (q1,q2,q3,q4)→Calls Tryd.prog 68 #[.agg #[.int .i64 x.f0,.int .i64 x.f1.f0,.int .i64 x.f1.f1,.string x.f1.f2,.string x.f2,.string x.f3,.int .i64 x.f4,.slice A8 x.f5.length c8],.func (.func 69) #[] #[.pointer (some ⟨g,0,none⟩)]] W fun e w'=>e = .returned (.tuple #[.agg #[.int .i64 q1,.int .i64 q2,.string q3],.int .i64 q4])∧Below W.heap.size W w')
    (e:S41) (A7:Option Addr) (c7:Nat) (r1 r2:Int) (r3:ByteArray) (r4:Int) (w:World) (he:zk.Env row g w) (hr:Kd.C k41 w A7 e.f5.length e.f5) (hc:e.f5.length≤c7) (ho:e.f0=20) (h:zk.lz f k 2 zqt.f 0 0 0 e.f5=some (r1,r2,r3,r4)) :
    Calls Tryd.prog 106 #[.agg #[.int .i64 e.f0,.int .i64 e.f1.f0,.int .i64 e.f1.f1,.string e.f1.f2,.string e.f2,.string e.f3,.int .i64 e.f4,.slice A7 e.f5.length c7],.func (.func 69) #[] #[.pointer (some ⟨g,0,none⟩)]] w fun e w'=>e = .returned (.tuple #[.agg #[.int .i64 r1,.int .i64 r2,.string r3],.int .i64 r4])∧Below w.heap.size w w':=by
  have huv:=Tryd.underlying38
  have hm:=hr.2.1
  have d20:(e.f0 == 20)=true:=by simp [ho]
  have HE:=zq.mk he
  have HRR:=zq.mk hr
  have HII:=zq.mk hi
  have HS:=zq.mk h
  clear he hr hi ho h
  go_enter Tryd.func106,Tryd.ntmps106
  go_wp2
  go_loopw [19] (fun i wr => ∃ j:Nat,j≤e.f5.length∧i = .int .i64 j ∧ ∃ a b:Int,zq (zk.lz f k 2 zqt.f j a b (e.f5.drop j)=some (r1,r2,r3,r4))∧zq (Below (zk.w0 e A7 c7 w).heap.size (zk.w0 e A7 c7 w) wr)∧zq (wr.heap[w.heap.size+1+1]? = some (.cells #[.int .i64 a,.int .i64 b] 165 (0,0)))) (fun i _=>e.f5.length - (intOf i).toNat)
  case atStart=>exact⟨0,by omega,rfl,0,0,⟨by rw [List.drop_zero];exact HS.out⟩,⟨zp (Below.refl _ _) _⟩,⟨by have h:=zj5 (zk.w0 e A7 c7 w) (.cells #[.int .i64 0,.int .i64 0] 165);rwa [zk.zq6] at h⟩⟩
  case round=>
    clear HS
    obtain ⟨j,hj,rfl,a,b,HS,HB,HG⟩:=hrel
    by_cases hlt:j<e.f5.length
    · cases zk.kp HB.out
      have hgl:=qi HG.out
      obtain ⟨bb,oo,rfl,hcs⟩:=qj.at_ (Kd.zqj HRR.out (zk.hr HB.out)) (by omega)
      obtain ⟨A8,c8,p0,p1,p2,p3,p4,p5,p6,p7,l8,r8⟩:=hcs j hlt
      have hs:=HS.out
      rw [List.drop_eq_getElem_cons hlt,zk.lz] at hs
      by_cases j2:2≤j
      · rw [if_pos j2] at hs;cases hs
      rw [if_neg j2] at hs
      generalize e.f5[j]=x at *
      obtain ⟨⟨q1,q2,q3,q4⟩,hq,ht⟩:=Option.bind_eq_some_iff.1 hs
      clear hs
      dsimp only at ht
      have hs:=ht
      clear ht
      have hba:=zp (Below.refl wr.heap.size wr) (.cells #[.int .i64 x.f0,.int .i64 x.f1.f0,.int .i64 x.f1.f1,.string x.f1.f2,.string x.f2,.string x.f3,.int .i64 x.f4,.slice A8 x.f5.length c8] 41)
      have HCA:=zq.mk (HII.out x A8 c8 q1 q2 q3 q4 _ ((HE.out.below (zk.hr HB.out)).below hba) (Kd.zqj r8 hba) l8 hq)
      have HBA:=zq.mk (zp HB.out (.cells #[.int .i64 x.f0,.int .i64 x.f1.f0,.int .i64 x.f1.f1,.string x.f1.f2,.string x.f2,.string x.f3,.int .i64 x.f4,.slice A8 x.f5.length c8] 41))
      have HGA:=zq.mk (zv HG.out (.cells #[.int .i64 x.f0,.int .i64 x.f1.f0,.int .i64 x.f1.f1,.string x.f1.f2,.string x.f2,.string x.f3,.int .i64 x.f4,.slice A8 x.f5.length c8] 41))
      clear hba hq r8 hcs HS
      by_cases z:q4=0
      · rw [if_pos z] at hs
        subst z
        obtain ⟨⟨u,v⟩,hu,hs⟩:=Option.bind_eq_some_iff.1 hs
        dsimp only at hs
        have HU:=zq.mk hu
        clear hu
        by_cases y:v=0
        · rw [if_pos y] at hs
          subst y
          obtain rfl|rfl:j=0∨j=1:=by omega
          · simp only [Nat.zero_mul,Nat.add_zero] at p0 p1 p2 p3 p4 p5 p6 p7
            by_cases t:u=2
            · rw [if_pos ⟨rfl,t⟩] at hs
              have dt:(u == 2)=true:=by simpa using t
              have HO:=zq.mk hs
              clear hs t
              go_wp2_with (first|(go_at_call 68;(with_reducible refine HCA.out.mono ?_);rintro z w4 ⟨rfl,hb4⟩;have HB4:=zq.mk (HBA.out.trans (hb4.mono HBA.out.size));have HG4:=zq.mk ((hb4.block _ (qi HGA.out)).trans HGA.out);clear hb4;cases zk.kp HB4.out;have hl4:=qi HG4.out;have y4_0:w4.cell? ⟨w.heap.size+1+1,0,none⟩=some (.int .i64 a):=(qw HG4.out 0).trans rfl;have z4_0:=qy HG4.out 0;have y4_1:w4.cell? ⟨w.heap.size+1+1,1,none⟩=some (.int .i64 b):=(qw HG4.out 1).trans rfl;have z4_1:=qy HG4.out 1)|(go_at_call 46;(with_reducible refine(zq0.calls k _ _ _ u _ _ (LD.below HE.out.ld (zk.hr (zp HB4.out _))) HU.out).mono ?_);rintro z w5 ⟨rfl,hb5⟩;have HB5:=zq.mk ((zp HB4.out _).trans (hb5.mono (zp HB4.out _).size));have HG5:=zq.mk ((hb5.block _ (qi (zv HG4.out _))).trans (zv HG4.out _));clear hb5;cases zk.kp HB5.out;have hl5:=qi HG5.out;have y5_0:w5.cell? ⟨w.heap.size+1+1,0,none⟩=some (.int .i64 a):=(qw HG5.out 0).trans rfl;have z5_0:=qy HG5.out 0;have y5_1:w5.cell? ⟨w.heap.size+1+1,1,none⟩=some (.int .i64 b):=(qw HG5.out 1).trans rfl;have z5_1:=qy HG5.out 1)|(go_at_call 132;(with_reducible refine(zqp.calls k _ r1 r2 r3 r4 _ HO.out).mono ?_);rintro z w6 ⟨rfl,hb6⟩;have HB6:=zq.mk ((HB5.out.setCell (p:=⟨w.heap.size+1+1,0,none⟩) (Nat.le_of_eq zk.zq6) _).trans (hb6.mono (HB5.out.setCell (p:=⟨w.heap.size+1+1,0,none⟩) (Nat.le_of_eq zk.zq6) _).size));clear hb6;cases zk.kp HB6.out))
              have HVX:=(zr (zr (zr (zk.hz HB6.out) 0 (.int .i64 r1) rfl) 1 (.int .i64 r2) rfl) 2 (.string r3) rfl)
              refine bodyPost_ret (qg (rs := [.cell 4 38,.tmp 5]) rfl (by simp) (.cell (w.heap.size+1) 38 _ (0,0) _ rfl HVX huv rfl (by kernel_rfl) (.tmp .nil))) rfl ?_
              exact⟨rfl,(((zk.hr HB6.out).setCell (p:=⟨w.heap.size+1,0,none⟩) (by simp <;> omega) _).setCell (p:=⟨w.heap.size+1,1,none⟩) (by simp <;> omega) _).setCell (p:=⟨w.heap.size+1,2,none⟩) (by simp <;> omega) _⟩
            rw [if_neg (fun h_=>t h_.2),if_pos rfl,if_pos rfl] at hs
            have dt:(u == 2)=false:=by simpa using t
            have HS:=zq.mk hs
            clear hs t
            go_wp2_with (first|(go_at_call 68;(with_reducible refine HCA.out.mono ?_);rintro z w4 ⟨rfl,hb4⟩;have HB4:=zq.mk (HBA.out.trans (hb4.mono HBA.out.size));have HG4:=zq.mk ((hb4.block _ (qi HGA.out)).trans HGA.out);clear hb4;cases zk.kp HB4.out;have hl4:=qi HG4.out;have y4_0:w4.cell? ⟨w.heap.size+1+1,0,none⟩=some (.int .i64 a):=(qw HG4.out 0).trans rfl;have z4_0:=qy HG4.out 0;have y4_1:w4.cell? ⟨w.heap.size+1+1,1,none⟩=some (.int .i64 b):=(qw HG4.out 1).trans rfl;have z4_1:=qy HG4.out 1)|(go_at_call 46;(with_reducible refine(zq0.calls k _ _ _ u _ _ (LD.below HE.out.ld (zk.hr (zp HB4.out _))) HU.out).mono ?_);rintro z w5 ⟨rfl,hb5⟩;have HB5:=zq.mk ((zp HB4.out _).trans (hb5.mono (zp HB4.out _).size));have HG5:=zq.mk ((hb5.block _ (qi (zv HG4.out _))).trans (zv HG4.out _));clear hb5;cases zk.kp HB5.out;have hl5:=qi HG5.out;have y5_0:w5.cell? ⟨w.heap.size+1+1,0,none⟩=some (.int .i64 a):=(qw HG5.out 0).trans rfl;have z5_0:=qy HG5.out 0;have y5_1:w5.cell? ⟨w.heap.size+1+1,1,none⟩=some (.int .i64 b):=(qw HG5.out 1).trans rfl;have z5_1:=qy HG5.out 1))
            go_roundw
            case rel=>exact⟨1,by omega,by go_num,u,b,HS,⟨HB5.out.setCell (p:=⟨w.heap.size+1+1,0,none⟩) (Nat.le_of_eq zk.zq6) (.int .i64 u)⟩,⟨zr HG5.out 0 (.int .i64 u) rfl⟩⟩
            case measure=>simp [intOf];omega
          rw [if_neg (fun h_=>by cases h_.1),if_neg (by decide),if_neg (by decide)] at hs
          have HS:=zq.mk hs
          clear hs
          go_wp2_with (first|(go_at_call 68;(with_reducible refine HCA.out.mono ?_);rintro z w4 ⟨rfl,hb4⟩;have HB4:=zq.mk (HBA.out.trans (hb4.mono HBA.out.size));have HG4:=zq.mk ((hb4.block _ (qi HGA.out)).trans HGA.out);clear hb4;cases zk.kp HB4.out;have hl4:=qi HG4.out;have y4_0:w4.cell? ⟨w.heap.size+1+1,0,none⟩=some (.int .i64 a):=(qw HG4.out 0).trans rfl;have z4_0:=qy HG4.out 0;have y4_1:w4.cell? ⟨w.heap.size+1+1,1,none⟩=some (.int .i64 b):=(qw HG4.out 1).trans rfl;have z4_1:=qy HG4.out 1)|(go_at_call 46;(with_reducible refine(zq0.calls k _ _ _ u _ _ (LD.below HE.out.ld (zk.hr (zp HB4.out _))) HU.out).mono ?_);rintro z w5 ⟨rfl,hb5⟩;have HB5:=zq.mk ((zp HB4.out _).trans (hb5.mono (zp HB4.out _).size));have HG5:=zq.mk ((hb5.block _ (qi (zv HG4.out _))).trans (zv HG4.out _));clear hb5;cases zk.kp HB5.out;have hl5:=qi HG5.out;have y5_0:w5.cell? ⟨w.heap.size+1+1,0,none⟩=some (.int .i64 a):=(qw HG5.out 0).trans rfl;have z5_0:=qy HG5.out 0;have y5_1:w5.cell? ⟨w.heap.size+1+1,1,none⟩=some (.int .i64 b):=(qw HG5.out 1).trans rfl;have z5_1:=qy HG5.out 1))
          go_roundw
          case rel=>exact⟨2,by omega,by go_num,a,u,HS,⟨HB5.out.setCell (p:=⟨w.heap.size+1+1,1,none⟩) (Nat.le_of_eq zk.zq6) (.int .i64 u)⟩,⟨zr HG5.out 1 (.int .i64 u) rfl⟩⟩
          case measure=>simp [intOf];omega
        rw [if_neg y] at hs
        obtain ⟨rfl,rfl,rfl,rfl⟩:0=r1∧0=r2∧(⟨#[]⟩:ByteArray)=r3∧v=r4:=by simpa using hs
        have dy:(v != 0)=true:=by simpa using y
        clear hs y
        obtain rfl|rfl:j=0∨j=1:=by omega
        · simp only [Nat.zero_mul,Nat.add_zero] at p0 p1 p2 p3 p4 p5 p6 p7
          go_wp2_with (first|(go_at_call 68;(with_reducible refine HCA.out.mono ?_);rintro z w4 ⟨rfl,hb4⟩;have HB4:=zq.mk (HBA.out.trans (hb4.mono HBA.out.size));have HG4:=zq.mk ((hb4.block _ (qi HGA.out)).trans HGA.out);clear hb4;cases zk.kp HB4.out;have hl4:=qi HG4.out;have y4_0:w4.cell? ⟨w.heap.size+1+1,0,none⟩=some (.int .i64 a):=(qw HG4.out 0).trans rfl;have z4_0:=qy HG4.out 0;have y4_1:w4.cell? ⟨w.heap.size+1+1,1,none⟩=some (.int .i64 b):=(qw HG4.out 1).trans rfl;have z4_1:=qy HG4.out 1)|(go_at_call 46;(with_reducible refine(zq0.calls k _ _ _ u _ _ (LD.below HE.out.ld (zk.hr (zp HB4.out _))) HU.out).mono ?_);rintro z w5 ⟨rfl,hb5⟩;have HB5:=zq.mk ((zp HB4.out _).trans (hb5.mono (zp HB4.out _).size));have HG5:=zq.mk ((hb5.block _ (qi (zv HG4.out _))).trans (zv HG4.out _));clear hb5;cases zk.kp HB5.out;have hl5:=qi HG5.out;have y5_0:w5.cell? ⟨w.heap.size+1+1,0,none⟩=some (.int .i64 a):=(qw HG5.out 0).trans rfl;have z5_0:=qy HG5.out 0;have y5_1:w5.cell? ⟨w.heap.size+1+1,1,none⟩=some (.int .i64 b):=(qw HG5.out 1).trans rfl;have z5_1:=qy HG5.out 1))
          have HVX:=(zr (zr (zr (zk.hz (HB5.out.setCell (p:=⟨w.heap.size+1+1,0,none⟩) (Nat.le_of_eq zk.zq6) (.int .i64 u))) 0 (.int .i64 0) rfl) 1 (.int .i64 0) rfl) 2 (.string ⟨#[]⟩) rfl)
          refine bodyPost_ret (qg (rs := [.cell 4 38,.tmp 5]) rfl (by simp) (.cell (w.heap.size+1) 38 _ (0,0) _ rfl HVX huv rfl (by kernel_rfl) (.tmp .nil))) rfl ?_
          exact⟨rfl,(((zk.hr (HB5.out.setCell (p:=⟨w.heap.size+1+1,0,none⟩) (Nat.le_of_eq zk.zq6) (.int .i64 u))).setCell (p:=⟨w.heap.size+1,0,none⟩) (by simp <;> omega) _).setCell (p:=⟨w.heap.size+1,1,none⟩) (by simp <;> omega) _).setCell (p:=⟨w.heap.size+1,2,none⟩) (by simp <;> omega) _⟩
        go_wp2_with (first|(go_at_call 68;(with_reducible refine HCA.out.mono ?_);rintro z w4 ⟨rfl,hb4⟩;have HB4:=zq.mk (HBA.out.trans (hb4.mono HBA.out.size));have HG4:=zq.mk ((hb4.block _ (qi HGA.out)).trans HGA.out);clear hb4;cases zk.kp HB4.out;have hl4:=qi HG4.out;have y4_0:w4.cell? ⟨w.heap.size+1+1,0,none⟩=some (.int .i64 a):=(qw HG4.out 0).trans rfl;have z4_0:=qy HG4.out 0;have y4_1:w4.cell? ⟨w.heap.size+1+1,1,none⟩=some (.int .i64 b):=(qw HG4.out 1).trans rfl;have z4_1:=qy HG4.out 1)|(go_at_call 46;(with_reducible refine(zq0.calls k _ _ _ u _ _ (LD.below HE.out.ld (zk.hr (zp HB4.out _))) HU.out).mono ?_);rintro z w5 ⟨rfl,hb5⟩;have HB5:=zq.mk ((zp HB4.out _).trans (hb5.mono (zp HB4.out _).size));have HG5:=zq.mk ((hb5.block _ (qi (zv HG4.out _))).trans (zv HG4.out _));clear hb5;cases zk.kp HB5.out;have hl5:=qi HG5.out;have y5_0:w5.cell? ⟨w.heap.size+1+1,0,none⟩=some (.int .i64 a):=(qw HG5.out 0).trans rfl;have z5_0:=qy HG5.out 0;have y5_1:w5.cell? ⟨w.heap.size+1+1,1,none⟩=some (.int .i64 b):=(qw HG5.out 1).trans rfl;have z5_1:=qy HG5.out 1))
        have HVX:=(zr (zr (zr (zk.hz (HB5.out.setCell (p:=⟨w.heap.size+1+1,1,none⟩) (Nat.le_of_eq zk.zq6) (.int .i64 u))) 0 (.int .i64 0) rfl) 1 (.int .i64 0) rfl) 2 (.string ⟨#[]⟩) rfl)
        refine bodyPost_ret (qg (rs := [.cell 4 38,.tmp 5]) rfl (by simp) (.cell (w.heap.size+1) 38 _ (0,0) _ rfl HVX huv rfl (by kernel_rfl) (.tmp .nil))) rfl ?_
        exact⟨rfl,(((zk.hr (HB5.out.setCell (p:=⟨w.heap.size+1+1,1,none⟩) (Nat.le_of_eq zk.zq6) (.int .i64 u))).setCell (p:=⟨w.heap.size+1,0,none⟩) (by simp <;> omega) _).setCell (p:=⟨w.heap.size+1,1,none⟩) (by simp <;> omega) _).setCell (p:=⟨w.heap.size+1,2,none⟩) (by simp <;> omega) _⟩
      rw [if_neg z] at hs
      obtain ⟨rfl,rfl,rfl,rfl⟩:q1=r1∧q2=r2∧q3=r3∧q4=r4:=by simpa using hs
      have dz:(q4 != 0)=true:=by simpa using z
      clear hs z
      go_wp2_with (go_at_call 68;(with_reducible refine HCA.out.mono ?_);rintro z w4 ⟨rfl,hb4⟩;have HB4:=zq.mk (HBA.out.trans (hb4.mono HBA.out.size));have HG4:=zq.mk ((hb4.block _ (qi HGA.out)).trans HGA.out);clear hb4;cases zk.kp HB4.out;have hl4:=qi HG4.out;have y4_0:w4.cell? ⟨w.heap.size+1+1,0,none⟩=some (.int .i64 a):=(qw HG4.out 0).trans rfl;have z4_0:=qy HG4.out 0;have y4_1:w4.cell? ⟨w.heap.size+1+1,1,none⟩=some (.int .i64 b):=(qw HG4.out 1).trans rfl;have z4_1:=qy HG4.out 1)
      have HVX:=zv (zr (zr (zr (zk.hz HB4.out) 0 (.int .i64 q1) rfl) 1 (.int .i64 q2) rfl) 2 (.string q3) rfl) (.cells #[.int .i64 q1,.int .i64 q2,.string q3] 38)
      refine bodyPost_ret (qg (rs := [.cell 4 38,.tmp 5]) rfl (by simp) (.cell (w.heap.size+1) 38 _ (0,0) _ rfl HVX huv rfl (by kernel_rfl) (.tmp .nil))) rfl ?_
      exact⟨rfl,zp ((((zk.hr HB4.out).setCell (p:=⟨w.heap.size+1,0,none⟩) (by simp) _).setCell (p:=⟨w.heap.size+1,1,none⟩) (by simp) _).setCell (p:=⟨w.heap.size+1,2,none⟩) (by simp) _) _⟩
    obtain rfl:j=e.f5.length:=by omega
    have hs:=HS.out
    rw [List.drop_length,zk.lz] at hs
    obtain ⟨⟨u,v⟩,hu,hs⟩:=Option.bind_eq_some_iff.1 hs
    have HF:zq (Calls Tryd.prog 131 #[.slice (some ⟨wr.heap.size,0,none⟩) 2 2] (wr.alloc (.cells #[.int .i64 a,.int .i64 b] 3)) fun e w'=>e = .returned (.tuple #[.int .i64 u,.int .i64 v])∧zu (wr.alloc (.cells #[.int .i64 a,.int .i64 b] 3)) w'):=⟨zqt.calls (some ⟨wr.heap.size,0,none⟩) 2 [a,b] u v _ (zk.zxw wr a b) (Nat.le_refl _) hu⟩
    have HT:=zq.mk hs
    have hl:=qi HG.out
    have y0:wr.cell? ⟨w.heap.size+1+1,0,none⟩=some (.int .i64 a):=(qw HG.out 0).trans rfl
    have y1:wr.cell? ⟨w.heap.size+1+1,1,none⟩=some (.int .i64 b):=(qw HG.out 1).trans rfl
    clear HS hs hu
    go_wp2_with (first|(go_at_call 131;(with_reducible refine HF.out.mono ?_);rintro z w4 ⟨rfl,hd⟩;have HB4:=zq.mk ((zp HB.out _).trans (hd.below.mono (zp HB.out _).size));clear hd;cases zk.kp HB4.out)|(go_at_call 133;(with_reducible refine(zqz.calls k _ _ r1 r2 r3 r4 _ HT.out).mono ?_);rintro z w5 ⟨rfl,hb5⟩;have HB5:=zq.mk (HB4.out.trans (hb5.mono HB4.out.size));clear hb5;cases zk.kp HB5.out))
    have HVX:=(zr (zr (zr (zk.hz HB5.out) 0 (.int .i64 r1) rfl) 1 (.int .i64 r2) rfl) 2 (.string r3) rfl)
    refine bodyPost_ret (qg (rs := [.cell 4 38,.tmp 5]) rfl (by simp) (.cell (w.heap.size+1) 38 _ (0,0) _ rfl HVX huv rfl (by kernel_rfl) (.tmp .nil))) rfl ?_
    exact⟨rfl,(((zk.hr HB5.out).setCell (p:=⟨w.heap.size+1,0,none⟩) (by simp <;> omega) _).setCell (p:=⟨w.heap.size+1,1,none⟩) (by simp <;> omega) _).setCell (p:=⟨w.heap.size+1,2,none⟩) (by simp <;> omega) _⟩
set_option maxRecDepth 100000 in
set_option maxHeartbeats 16000000 in
theorem zk.asked (row:List S38) (k:Nat) (g:Nat):∀ (n:Nat) (e:S41) (A7:Option Addr) (c7:Nat) (r1 r2:Int) (r3:ByteArray) (r4:Int) (w:World),zk.Env row g w→Kd.C k41 w A7 e.f5.length e.f5→e.f5.length≤c7→zk.ev row k n e=some (r1,r2,r3,r4) →
    Calls Tryd.prog 68 #[.agg #[.int .i64 e.f0,.int .i64 e.f1.f0,.int .i64 e.f1.f1,.string e.f1.f2,.string e.f2,.string e.f3,.int .i64 e.f4,.slice A7 e.f5.length c7],.func (.func 69) #[] #[.pointer (some ⟨g,0,none⟩)]] w fun e w'=>e = .returned (.tuple #[.agg #[.int .i64 r1,.int .i64 r2,.string r3],.int .i64 r4])∧Below w.heap.size w w':=by
  intro n
  induction n with
  | zero=>
    intro e A7 c7 r1 r2 r3 r4 w he hr hc h
    cases h
  | succ n ih=>
  intro e A7 c7 r1 r2 r3 r4 w he hr hc h
  have huv:=Tryd.underlying38
  have hm:=hr.2.1
  have HE:=zq.mk he
  have HRR:=zq.mk hr
  have HII:=zq.mk ih
  have hew:=fun (W:World) (hb:Below (zk.w0 e A7 c7 w).heap.size (zk.w0 e A7 c7 w) W)=>he.below (zk.hr hb)
  have hrw:=fun (W:World) (hb:Below (zk.w0 e A7 c7 w).heap.size (zk.w0 e A7 c7 w) W)=>Kd.zqj hr (zk.hr hb)
  have HEW:=zq.mk hew
  have HRW:=zq.mk hrw
  clear ih hew hrw
  rw [zk.ev] at h
  by_cases h3:e.f0=3
  · rw [if_pos h3] at h
    by_cases hi:0≤e.f4∧e.f4<row.length
    rotate_left
    · rw [if_neg hi] at h;cases h
    rw [if_pos hi] at h
    obtain ⟨rfl,rfl,rfl,rfl⟩:(qe row e.f4).f0=r1∧(qe row e.f4).f1=r2∧(qe row e.f4).f2=r3∧0=r4:=by simpa using h
    have HY:=zq.mk (zk.of_yes row e A7 c7 g (zk.w0 e A7 c7 w) (HEW.out _ (Below.refl _ _)) h3 hi.1 hi.2)
    clear h h3 hi he hr
    generalize qe row e.f4=x at *
    go_enter Tryd.func68,Tryd.ntmps68
    go_wp2_with (go_at_call 69;(with_reducible refine(zo.lift (W0:=zk.w0 e A7 c7 w) (Below.refl _ _) (HY.out)).mono ?_);rintro z w1 ⟨rfl,hb1⟩;have HB1:=zq.mk hb1;cases zk.kp hb1;clear hb1)
    have HVX:=zv (zr (zr (zr (zk.hz HB1.out) 0 (.int .i64 x.f0) rfl) 1 (.int .i64 x.f1) rfl) 2 (.string x.f2) rfl) (.cells #[.int .i64 x.f0,.int .i64 x.f1,.string x.f2] 38)
    refine bodyPost_ret (qg (rs := [.cell 4 38,.tmp 5]) rfl (by simp) (.cell (w.heap.size+1) 38 _ (0,0) _ rfl HVX huv rfl (by kernel_rfl) (.tmp .nil))) rfl ?_
    exact⟨rfl,zp ((((zk.hr HB1.out).setCell (p:=⟨w.heap.size+1,0,none⟩) (by simp) _).setCell (p:=⟨w.heap.size+1,1,none⟩) (by simp) _).setCell (p:=⟨w.heap.size+1,2,none⟩) (by simp) _) _⟩
  rw [if_neg h3] at h
  have HNO:=zq.mk (fun W=>zk.of_no e A7 c7 g W h3)
  by_cases h1:e.f0=1
  · rw [if_pos h1] at h
    obtain ⟨rfl,rfl,rfl,rfl⟩:e.f1.f0=r1∧e.f1.f1=r2∧e.f1.f2=r3∧0=r4:=by simpa using h
    have d1:(e.f0 == 1)=true:=by simpa using h1
    clear h h3 h1 he hr
    go_enter Tryd.func68,Tryd.ntmps68
    go_wp2_with (go_at_call 69;(with_reducible refine(zo.lift (W0:=zk.w0 e A7 c7 w) (Below.refl _ _) (HNO.out _)).mono ?_);rintro z w1 ⟨rfl,hb1⟩;have HB1:=zq.mk hb1;cases zk.kp hb1;clear hb1)
    have HVX:=zv (zr (zr (zr (zk.hz HB1.out) 0 (.int .i64 e.f1.f0) rfl) 1 (.int .i64 e.f1.f1) rfl) 2 (.string e.f1.f2) rfl) (.cells #[.int .i64 0,.int .i64 0,.string ⟨#[]⟩] 38)
    refine bodyPost_ret (qg (rs := [.cell 4 38,.tmp 5]) rfl (by simp) (.cell (w.heap.size+1) 38 _ (0,0) _ rfl HVX huv rfl (by kernel_rfl) (.tmp .nil))) rfl ?_
    exact⟨rfl,zp ((((zk.hr HB1.out).setCell (p:=⟨w.heap.size+1,0,none⟩) (by simp) _).setCell (p:=⟨w.heap.size+1,1,none⟩) (by simp) _).setCell (p:=⟨w.heap.size+1,2,none⟩) (by simp) _) _⟩
  rw [if_neg h1] at h
  have d1:(e.f0 == 1)=false:=by simpa using h1
  by_cases h19:e.f0=19
  · rw [if_pos h19] at h
    have d2:(e.f0 == 19)=true:=by simpa using h19
    have HLZ:=zq.mk (fun (W:World) hb=>zk.lazy_19 row k _ g HII.out e A7 c7 r1 r2 r3 r4 W (HEW.out W hb) (HRW.out W hb) hc h19 h)
    clear h h3 h1 h19 he hr
    go_enter Tryd.func68,Tryd.ntmps68
    go_wp2_with (first|(go_at_call 69;(with_reducible refine(zo.lift (W0:=zk.w0 e A7 c7 w) (Below.refl _ _) (HNO.out _)).mono ?_);rintro z w1 ⟨rfl,hb1⟩;have HB1:=zq.mk hb1;cases zk.kp hb1;clear hb1)|(go_at_call 106;(with_reducible refine(HLZ.out _ (zp HB1.out _)).mono ?_);rintro z w2 ⟨rfl,hb2⟩;have HB2:=zq.mk ((zp HB1.out _).trans (hb2.mono (zp HB1.out _).size));cases zk.kp HB2.out;clear hb2))
    have HVX:=(zr (zr (zr (zk.hz (HB2.out)) 0 (.int .i64 r1) rfl) 1 (.int .i64 r2) rfl) 2 (.string r3) rfl)
    refine bodyPost_ret (qg (rs := [.cell 4 38,.tmp 5]) rfl (by simp) (.cell (w.heap.size+1) 38 _ (0,0) _ rfl HVX huv rfl (by kernel_rfl) (.tmp .nil))) rfl ?_
    exact⟨rfl,(((zk.hr (HB2.out)).setCell (p:=⟨w.heap.size+1,0,none⟩) (by simp <;> omega) _).setCell (p:=⟨w.heap.size+1,1,none⟩) (by simp <;> omega) _).setCell (p:=⟨w.heap.size+1,2,none⟩) (by simp <;> omega) _⟩
  rw [if_neg h19] at h
  have d2:(e.f0 == 19)=false:=by simpa using h19
  by_cases h20:e.f0=20
  · rw [if_pos h20] at h
    have d3:(e.f0 == 20)=true:=by simpa using h20
    have HLZ:=zq.mk (fun (W:World) hb=>zk.lazy_20 row k _ g HII.out e A7 c7 r1 r2 r3 r4 W (HEW.out W hb) (HRW.out W hb) hc h20 h)
    clear h h3 h1 h19 h20 he hr
    go_enter Tryd.func68,Tryd.ntmps68
    go_wp2_with (first|(go_at_call 69;(with_reducible refine(zo.lift (W0:=zk.w0 e A7 c7 w) (Below.refl _ _) (HNO.out _)).mono ?_);rintro z w1 ⟨rfl,hb1⟩;have HB1:=zq.mk hb1;cases zk.kp hb1;clear hb1)|(go_at_call 106;(with_reducible refine(HLZ.out _ (zp HB1.out _)).mono ?_);rintro z w2 ⟨rfl,hb2⟩;have HB2:=zq.mk ((zp HB1.out _).trans (hb2.mono (zp HB1.out _).size));cases zk.kp HB2.out;clear hb2))
    have HVX:=(zr (zr (zr (zk.hz (HB2.out)) 0 (.int .i64 r1) rfl) 1 (.int .i64 r2) rfl) 2 (.string r3) rfl)
    refine bodyPost_ret (qg (rs := [.cell 4 38,.tmp 5]) rfl (by simp) (.cell (w.heap.size+1) 38 _ (0,0) _ rfl HVX huv rfl (by kernel_rfl) (.tmp .nil))) rfl ?_
    exact⟨rfl,(((zk.hr (HB2.out)).setCell (p:=⟨w.heap.size+1,0,none⟩) (by simp <;> omega) _).setCell (p:=⟨w.heap.size+1,1,none⟩) (by simp <;> omega) _).setCell (p:=⟨w.heap.size+1,2,none⟩) (by simp <;> omega) _⟩
  rw [if_neg h20] at h
  have d3:(e.f0 == 20)=false:=by simpa using h20
  have HS:=zq.mk h
  clear h h3 h1 h19 h20 he hr
  go_enter Tryd.func68,Tryd.ntmps68
  go_wp2_with (go_at_call 69;(with_reducible refine(zo.lift (W0:=zk.w0 e A7 c7 w) (Below.refl _ _) (HNO.out _)).mono ?_);rintro z w1 ⟨rfl,hb1⟩;have HB1:=zq.mk hb1;cases zk.kp hb1;clear hb1)
  go_loopw [41] (fun i wr => ∃ j:Nat,j≤e.f5.length∧i = .int .i64 j ∧ ∃ a b:S38,zq (zk.rest (zk.ev row k n) (zm.of k e.f0) j a b (e.f5.drop j)=some (r1,r2,r3,r4))∧zq (Below (zk.w0 e A7 c7 w).heap.size (zk.w0 e A7 c7 w) wr)∧zq (wr.heap[w1.heap.size+1]? = some (.cells #[.int .i64 a.f0,.int .i64 a.f1,.string a.f2,.int .i64 b.f0,.int .i64 b.f1,.string b.f2] 136 (0,0)))) (fun i _=>e.f5.length - (intOf i).toNat)
  case atStart=>exact⟨0,by omega,rfl,⟨0,0,⟨#[]⟩⟩,⟨0,0,⟨#[]⟩⟩,⟨by rw [List.drop_zero];exact HS.out⟩,⟨zp (zp HB1.out _) _⟩,⟨zk.new1 w1 _ _⟩⟩
  case round=>
    clear HS
    obtain ⟨j,hj,rfl,a,b,HS,HB,HG⟩:=hrel
    by_cases hlt:j<e.f5.length
    · cases zk.kp HB.out
      have hgl:=qi HG.out
      obtain ⟨bb,oo,rfl,hcs⟩:=qj.at_ (Kd.zqj HRR.out (zk.hr HB.out)) (by omega)
      obtain ⟨A8,c8,p0,p1,p2,p3,p4,p5,p6,p7,l8,r8⟩:=hcs j hlt
      have hs:=HS.out
      rw [List.drop_eq_getElem_cons hlt,zk.rest] at hs
      by_cases j2:2≤j
      · rw [if_pos j2] at hs;cases hs
      rw [if_neg j2] at hs
      generalize e.f5[j]=x at *
      obtain ⟨⟨q1,q2,q3,q4⟩,hq,ht⟩:=Option.bind_eq_some_iff.1 hs
      clear hs
      dsimp only at ht
      have hs:=ht
      clear ht
      have hba:=zp (Below.refl wr.heap.size wr) (.cells #[.int .i64 x.f0,.int .i64 x.f1.f0,.int .i64 x.f1.f1,.string x.f1.f2,.string x.f2,.string x.f3,.int .i64 x.f4,.slice A8 x.f5.length c8] 41)
      have HCA:=zq.mk (HII.out x A8 c8 q1 q2 q3 q4 _ ((HE.out.below (zk.hr HB.out)).below hba) (Kd.zqj r8 hba) l8 hq)
      have HBA:=zq.mk (zp HB.out (.cells #[.int .i64 x.f0,.int .i64 x.f1.f0,.int .i64 x.f1.f1,.string x.f1.f2,.string x.f2,.string x.f3,.int .i64 x.f4,.slice A8 x.f5.length c8] 41))
      have HGA:=zq.mk (zv HG.out (.cells #[.int .i64 x.f0,.int .i64 x.f1.f0,.int .i64 x.f1.f1,.string x.f1.f2,.string x.f2,.string x.f3,.int .i64 x.f4,.slice A8 x.f5.length c8] 41))
      clear hba hq r8 hcs HS
      by_cases z:q4=0
      · rw [if_pos z] at hs
        subst z
        obtain rfl|rfl:j=0∨j=1:=by omega
        · simp only [Nat.zero_mul,Nat.add_zero] at p0 p1 p2 p3 p4 p5 p6 p7
          rw [if_pos rfl,if_pos rfl] at hs
          have HS:=zq.mk hs
          clear hs
          go_wp2_with (go_at_call 68;(with_reducible refine HCA.out.mono ?_);rintro z w4 ⟨rfl,hb4⟩;have HB4:=zq.mk (HBA.out.trans (hb4.mono HBA.out.size));have HG4:=zq.mk ((hb4.block _ (qi HGA.out)).trans HGA.out);clear hb4;cases zk.kp HB4.out;have hl4:=qi HG4.out;have y4_0:w4.cell? ⟨w1.heap.size+1,0,none⟩=some (.int .i64 a.f0):=(qw HG4.out 0).trans rfl;have z4_0:=qy HG4.out 0;have y4_1:w4.cell? ⟨w1.heap.size+1,1,none⟩=some (.int .i64 a.f1):=(qw HG4.out 1).trans rfl;have z4_1:=qy HG4.out 1;have y4_2:w4.cell? ⟨w1.heap.size+1,2,none⟩=some (.string a.f2):=(qw HG4.out 2).trans rfl;have z4_2:=qy HG4.out 2;have y4_3:w4.cell? ⟨w1.heap.size+1,3,none⟩=some (.int .i64 b.f0):=(qw HG4.out 3).trans rfl;have z4_3:=qy HG4.out 3;have y4_4:w4.cell? ⟨w1.heap.size+1,4,none⟩=some (.int .i64 b.f1):=(qw HG4.out 4).trans rfl;have z4_4:=qy HG4.out 4;have y4_5:w4.cell? ⟨w1.heap.size+1,5,none⟩=some (.string b.f2):=(qw HG4.out 5).trans rfl;have z4_5:=qy HG4.out 5)
          go_roundw
          case rel=>exact⟨1,by omega,by go_num,⟨q1,q2,q3⟩,b,HS,⟨zp (((HB4.out.setCell (p:=⟨w1.heap.size+1,0,none⟩) (Nat.le_succ_of_le HB1.out.size) _).setCell (p:=⟨w1.heap.size+1,1,none⟩) (Nat.le_succ_of_le HB1.out.size) _).setCell (p:=⟨w1.heap.size+1,2,none⟩) (Nat.le_succ_of_le HB1.out.size) _) _⟩,⟨zv (zr (zr (zr HG4.out 0 (.int .i64 q1) rfl) 1 (.int .i64 q2) rfl) 2 (.string q3) rfl) _⟩⟩
          case measure=>simp [intOf];omega
        rw [if_neg (by decide),if_neg (by decide)] at hs
        have HS:=zq.mk hs
        clear hs
        go_wp2_with (go_at_call 68;(with_reducible refine HCA.out.mono ?_);rintro z w4 ⟨rfl,hb4⟩;have HB4:=zq.mk (HBA.out.trans (hb4.mono HBA.out.size));have HG4:=zq.mk ((hb4.block _ (qi HGA.out)).trans HGA.out);clear hb4;cases zk.kp HB4.out;have hl4:=qi HG4.out;have y4_0:w4.cell? ⟨w1.heap.size+1,0,none⟩=some (.int .i64 a.f0):=(qw HG4.out 0).trans rfl;have z4_0:=qy HG4.out 0;have y4_1:w4.cell? ⟨w1.heap.size+1,1,none⟩=some (.int .i64 a.f1):=(qw HG4.out 1).trans rfl;have z4_1:=qy HG4.out 1;have y4_2:w4.cell? ⟨w1.heap.size+1,2,none⟩=some (.string a.f2):=(qw HG4.out 2).trans rfl;have z4_2:=qy HG4.out 2;have y4_3:w4.cell? ⟨w1.heap.size+1,3,none⟩=some (.int .i64 b.f0):=(qw HG4.out 3).trans rfl;have z4_3:=qy HG4.out 3;have y4_4:w4.cell? ⟨w1.heap.size+1,4,none⟩=some (.int .i64 b.f1):=(qw HG4.out 4).trans rfl;have z4_4:=qy HG4.out 4;have y4_5:w4.cell? ⟨w1.heap.size+1,5,none⟩=some (.string b.f2):=(qw HG4.out 5).trans rfl;have z4_5:=qy HG4.out 5)
        go_roundw
        case rel=>exact⟨2,by omega,by go_num,a,⟨q1,q2,q3⟩,HS,⟨zp (((HB4.out.setCell (p:=⟨w1.heap.size+1,3,none⟩) (Nat.le_succ_of_le HB1.out.size) _).setCell (p:=⟨w1.heap.size+1,4,none⟩) (Nat.le_succ_of_le HB1.out.size) _).setCell (p:=⟨w1.heap.size+1,5,none⟩) (Nat.le_succ_of_le HB1.out.size) _) _⟩,⟨zv (zr (zr (zr HG4.out 3 (.int .i64 q1) rfl) 4 (.int .i64 q2) rfl) 5 (.string q3) rfl) _⟩⟩
        case measure=>simp [intOf];omega
      rw [if_neg z] at hs
      obtain ⟨rfl,rfl,rfl,rfl⟩:q1=r1∧q2=r2∧q3=r3∧q4=r4:=by simpa using hs
      have dz:(q4 != 0)=true:=by simpa using z
      clear hs z
      go_wp2_with (go_at_call 68;(with_reducible refine HCA.out.mono ?_);rintro z w4 ⟨rfl,hb4⟩;have HB4:=zq.mk (HBA.out.trans (hb4.mono HBA.out.size));have HG4:=zq.mk ((hb4.block _ (qi HGA.out)).trans HGA.out);clear hb4;cases zk.kp HB4.out;have hl4:=qi HG4.out;have y4_0:w4.cell? ⟨w1.heap.size+1,0,none⟩=some (.int .i64 a.f0):=(qw HG4.out 0).trans rfl;have z4_0:=qy HG4.out 0;have y4_1:w4.cell? ⟨w1.heap.size+1,1,none⟩=some (.int .i64 a.f1):=(qw HG4.out 1).trans rfl;have z4_1:=qy HG4.out 1;have y4_2:w4.cell? ⟨w1.heap.size+1,2,none⟩=some (.string a.f2):=(qw HG4.out 2).trans rfl;have z4_2:=qy HG4.out 2;have y4_3:w4.cell? ⟨w1.heap.size+1,3,none⟩=some (.int .i64 b.f0):=(qw HG4.out 3).trans rfl;have z4_3:=qy HG4.out 3;have y4_4:w4.cell? ⟨w1.heap.size+1,4,none⟩=some (.int .i64 b.f1):=(qw HG4.out 4).trans rfl;have z4_4:=qy HG4.out 4;have y4_5:w4.cell? ⟨w1.heap.size+1,5,none⟩=some (.string b.f2):=(qw HG4.out 5).trans rfl;have z4_5:=qy HG4.out 5)
      have HVX:=zv (zr (zr (zr (zk.hz HB4.out) 0 (.int .i64 q1) rfl) 1 (.int .i64 q2) rfl) 2 (.string q3) rfl) (.cells #[.int .i64 q1,.int .i64 q2,.string q3] 38)
      refine bodyPost_ret (qg (rs := [.cell 4 38,.tmp 5]) rfl (by simp) (.cell (w.heap.size+1) 38 _ (0,0) _ rfl HVX huv rfl (by kernel_rfl) (.tmp .nil))) rfl ?_
      exact⟨rfl,zp ((((zk.hr HB4.out).setCell (p:=⟨w.heap.size+1,0,none⟩) (by simp) _).setCell (p:=⟨w.heap.size+1,1,none⟩) (by simp) _).setCell (p:=⟨w.heap.size+1,2,none⟩) (by simp) _) _⟩
    obtain rfl:j=e.f5.length:=by omega
    have hs:=HS.out
    rw [List.drop_length,zk.rest] at hs
    have HMK:=zq.mk hs
    cases zk.kp HB.out
    have hl:=qi HG.out
    have y0:wr.cell? ⟨w1.heap.size+1,0,none⟩=some (.int .i64 a.f0):=(qw HG.out 0).trans rfl
    have y1:wr.cell? ⟨w1.heap.size+1,1,none⟩=some (.int .i64 a.f1):=(qw HG.out 1).trans rfl
    have y2:wr.cell? ⟨w1.heap.size+1,2,none⟩=some (.string a.f2):=(qw HG.out 2).trans rfl
    have y3:wr.cell? ⟨w1.heap.size+1,3,none⟩=some (.int .i64 b.f0):=(qw HG.out 3).trans rfl
    have y4:wr.cell? ⟨w1.heap.size+1,4,none⟩=some (.int .i64 b.f1):=(qw HG.out 4).trans rfl
    have y5:wr.cell? ⟨w1.heap.size+1,5,none⟩=some (.string b.f2):=(qw HG.out 5).trans rfl
    clear HS hs
    go_wp2_with (go_at_call 107;(with_reducible refine(zm.at_ k _ _ _ _ _ _ _ _ _ _ a b r1 r2 r3 r4 _ (LD.below HE.out.ld (zk.hr HB.out)) HMK.out).mono ?_);rintro z w4 ⟨rfl,hb4⟩;have HB4:=zq.mk (HB.out.trans (hb4.mono HB.out.size));clear hb4;cases zk.kp HB4.out)
    have HVX:=(zr (zr (zr (zk.hz (HB4.out)) 0 (.int .i64 r1) rfl) 1 (.int .i64 r2) rfl) 2 (.string r3) rfl)
    refine bodyPost_ret (qg (rs := [.cell 4 38,.tmp 5]) rfl (by simp) (.cell (w.heap.size+1) 38 _ (0,0) _ rfl HVX huv rfl (by kernel_rfl) (.tmp .nil))) rfl ?_
    exact⟨rfl,(((zk.hr (HB4.out)).setCell (p:=⟨w.heap.size+1,0,none⟩) (by simp <;> omega) _).setCell (p:=⟨w.heap.size+1,1,none⟩) (by simp <;> omega) _).setCell (p:=⟨w.heap.size+1,2,none⟩) (by simp <;> omega) _⟩

-- NOT PRINTED: function 39 (eval_EvalWith)

-- NOT PRINTED: function 40 (eval_of)

/-! ### zqb: function 16, by hand -/
-- HAND rounds=1 making=1 laid=1 imports=Derived.Deep.QuietTactic,Derived.BigQuiet,Derived.Deep.RegionHeld3,Derived.Deep.RegionWith
def zqb.expr (a0 a1 a2:Int) (a3 a4 a5:ByteArray) (a6:Int) (l7:List S41):S41:=⟨a0,⟨a1,a2,a3⟩,a4,a5,a6,l7⟩
def zqb.f (k:Nat) (a0_0:Int) (a0_1:Int) (a0_2:Int) (a0_3:ByteArray) (a0_4:ByteArray) (a0_5:ByteArray) (a0_6:Int) (l0_7:List S41) (l1:List S38):Option (Int × Int × ByteArray × Int):=
  (zqq.f k a0_0 a0_1 a0_2 a0_3 a0_4 a0_5 a0_6 l0_7 l1).bind fun t=>if t=0 then zk.ev l1 k 12 (zqb.expr a0_0 a0_1 a0_2 a0_3 a0_4 a0_5 a0_6 l0_7) else some (0,0,⟨#[]⟩,t)
theorem zqb.mono:∀ a0 a1 a2 a3 a4 a5 a6 a7 a8 k,LeO (zqb.f k a0 a1 a2 a3 a4 a5 a6 a7 a8) (zqb.f (k+1) a0 a1 a2 a3 a4 a5 a6 a7 a8):=fun _ _ _ _ _ _ _ _ _ k=>LeO.bind (zqq.mono _ _ _ _ _ _ _ _ _ _) (fun _=>LeO.ite (zk.mono_ev _ _ _ _) (LeO.refl _))
abbrev zqb.w0 (e:S41) (A7:Option Addr) (c7:Nat) (w:World):World:=(w.alloc (.cells #[.int .i64 e.f0,.int .i64 e.f1.f0,.int .i64 e.f1.f1,.string e.f1.f2,.string e.f2,.string e.f3,.int .i64 e.f4,.slice A7 e.f5.length c7] 41)).alloc (.cells #[.int .i64 0,.int .i64 0,.string ⟨#[]⟩] 38)
structure zqb.Kp (e:S41) (A7:Option Addr) (c7:Nat) (w W:World):Prop where mk :: (c0:W.cell? ⟨w.heap.size,0,none⟩=some (.int .i64 e.f0)) (c1:W.cell? ⟨w.heap.size,1,none⟩=some (.int .i64 e.f1.f0)) (c2:W.cell? ⟨w.heap.size,2,none⟩=some (.int .i64 e.f1.f1)) (c3:W.cell? ⟨w.heap.size,3,none⟩=some (.string e.f1.f2)) (c4:W.cell? ⟨w.heap.size,4,none⟩=some (.string e.f2)) (c5:W.cell? ⟨w.heap.size,5,none⟩=some (.string e.f3)) (c6:W.cell? ⟨w.heap.size,6,none⟩=some (.int .i64 e.f4)) (c7:W.cell? ⟨w.heap.size,7,none⟩=some (.slice A7 e.f5.length c7)) (c8:W.cell? ⟨w.heap.size+1,0,none⟩=some (.int .i64 0)) (c9:W.cell? ⟨w.heap.size+1,1,none⟩=some (.int .i64 0)) (c10:W.cell? ⟨w.heap.size+1,2,none⟩=some (.string ⟨#[]⟩)) (c11:W.frozen? ⟨w.heap.size+1,0,none⟩=false) (c12:W.frozen? ⟨w.heap.size+1,1,none⟩=false) (c13:W.frozen? ⟨w.heap.size+1,2,none⟩=false) (c14:w.heap.size<W.heap.size) (c15:w.heap.size+1<W.heap.size)
theorem zqb.zq6 {e:S41} {A7:Option Addr} {c7:Nat} {w:World} : (zqb.w0 e A7 c7 w).heap.size=w.heap.size+1+1:=by simp [zqb.w0]
theorem zqb.hz {e:S41} {A7:Option Addr} {c7:Nat} {w W:World} (hb:Below (zqb.w0 e A7 c7 w).heap.size (zqb.w0 e A7 c7 w) W):W.heap[w.heap.size+1]? = some (.cells #[.int .i64 0,.int .i64 0,.string ⟨#[]⟩] 38 (0,0)):=by
  have q_:(w.alloc (.cells #[.int .i64 e.f0,.int .i64 e.f1.f0,.int .i64 e.f1.f1,.string e.f1.f2,.string e.f2,.string e.f3,.int .i64 e.f4,.slice A7 e.f5.length c7] 41)).heap.size=w.heap.size+1:=by simp
  have h:=zj5 (w.alloc (.cells #[.int .i64 e.f0,.int .i64 e.f1.f0,.int .i64 e.f1.f1,.string e.f1.f2,.string e.f2,.string e.f3,.int .i64 e.f4,.slice A7 e.f5.length c7] 41)) (.cells #[.int .i64 0,.int .i64 0,.string ⟨#[]⟩] 38)
  rw [q_] at h
  exact za h hb
theorem zqb.hr {e:S41} {A7:Option Addr} {c7:Nat} {w W:World} (hb:Below (zqb.w0 e A7 c7 w).heap.size (zqb.w0 e A7 c7 w) W):Below w.heap.size w W:=by
  have h0:Below w.heap.size w (zqb.w0 e A7 c7 w):=zp (zp (Below.refl _ _) _) _
  exact h0.trans (hb.mono h0.size)
theorem zqb.kp {e:S41} {A7:Option Addr} {c7:Nat} {w W:World} (hb:Below (zqb.w0 e A7 c7 w).heap.size (zqb.w0 e A7 c7 w) W):zqb.Kp e A7 c7 w W:=by
  have hs:=hb.size
  rw [zqb.zq6] at hs
  exact⟨qq hb (by simp [go_sem]),qq hb (by simp [go_sem]),qq hb (by simp [go_sem]),qq hb (by simp [go_sem]),qq hb (by simp [go_sem]),qq hb (by simp [go_sem]),qq hb (by simp [go_sem]),qq hb (by simp [go_sem]),qq hb (by simp [go_sem]),qq hb (by simp [go_sem]),qq hb (by simp [go_sem]),qy (zqb.hz hb) 0,qy (zqb.hz hb) 1,qy (zqb.hz hb) 2,by omega,by omega⟩
set_option maxRecDepth 100000 in
set_option maxHeartbeats 4000000 in
theorem zqb.with_ (row:List S38) (k:Nat) (g:Nat) (n:Nat) (e:S41) (A7:Option Addr) (c7:Nat) (r1 r2:Int) (r3:ByteArray) (r4:Int) (w:World) (he:zk.Env row g w) (hr:Kd.C k41 w A7 e.f5.length e.f5) (hc:e.f5.length≤c7) (h:zk.ev row k n e=some (r1,r2,r3,r4)) :
    Calls Tryd.prog 39 #[.agg #[.int .i64 e.f0,.int .i64 e.f1.f0,.int .i64 e.f1.f1,.string e.f1.f2,.string e.f2,.string e.f3,.int .i64 e.f4,.slice A7 e.f5.length c7],.func (.func 69) #[] #[.pointer (some ⟨g,0,none⟩)]] w fun e w'=>e = .returned (.tuple #[.agg #[.int .i64 r1,.int .i64 r2,.string r3],.int .i64 r4])∧Below w.heap.size w w':=by
  have huv:=Tryd.underlying38
  have HA:=zq.mk (fun (W:World) (hb:Below (zqb.w0 e A7 c7 w).heap.size (zqb.w0 e A7 c7 w) W)=>zk.asked row k g n e A7 c7 r1 r2 r3 r4 W (he.below (zqb.hr hb)) (Kd.zqj hr (zqb.hr hb)) hc h)
  clear he hr h
  go_enter Tryd.func39,Tryd.ntmps39
  go_wp2_with (go_at_call 68;(with_reducible refine(zo.lift (W0:=zqb.w0 e A7 c7 w) (Below.refl _ _) (HA.out _ (Below.refl _ _))).mono ?_);rintro z w1 ⟨rfl,hb1⟩;have HB1:=zq.mk hb1;cases zqb.kp hb1;clear hb1)
  have HVX:=(zr (zr (zr (zqb.hz HB1.out) 0 (.int .i64 r1) rfl) 1 (.int .i64 r2) rfl) 2 (.string r3) rfl)
  refine bodyPost_ret (qg (rs := [.cell 4 38,.tmp 5]) rfl (by simp) (.cell (w.heap.size+1) 38 _ (0,0) _ rfl HVX huv rfl (by kernel_rfl) (.tmp .nil))) rfl ?_
  exact⟨rfl,(((zqb.hr HB1.out).setCell (p:=⟨w.heap.size+1,0,none⟩) (by simp <;> omega) _).setCell (p:=⟨w.heap.size+1,1,none⟩) (by simp <;> omega) _).setCell (p:=⟨w.heap.size+1,2,none⟩) (by simp <;> omega) _⟩
set_option maxRecDepth 100000 in
set_option maxHeartbeats 4000000 in
theorem zqb.calls (k:Nat) (a0_0:Int) (a0_1:Int) (a0_2:Int) (a0_3:ByteArray) (a0_4:ByteArray) (a0_5:ByteArray) (a0_6:Int) (A0_7:Option Addr) (c0_7:Nat) (l0_7:List (S41)) (A1:Option Addr) (c1:Nat) (l1:List (S38)) (r1 r2:Int) (r3:ByteArray) (r4:Int) (w:World) (hr0_7:Kd.C k41 w A0_7 l0_7.length l0_7) (hc0_7:l0_7.length≤c0_7) (hr1:Kd.C k38 w A1 l1.length l1) (hc1:l1.length≤c1) (hL:LD w) (h:zqb.f k a0_0 a0_1 a0_2 a0_3 a0_4 a0_5 a0_6 l0_7 l1=some (r1,r2,r3,r4)) :
    Calls Tryd.prog 16 #[.agg #[.int .i64 a0_0,.int .i64 a0_1,.int .i64 a0_2,.string a0_3,.string a0_4,.string a0_5,.int .i64 a0_6,.slice A0_7 l0_7.length c0_7],.slice A1 l1.length c1] w fun e w'=>e = .returned (.tuple #[.agg #[.int .i64 r1,.int .i64 r2,.string r3],.int .i64 r4])∧Below w.heap.size w w':=by
  have huv:=Tryd.underlying38
  obtain ⟨t,ht,h⟩:=Option.bind_eq_some_iff.1 h
  obtain ⟨e,rfl,rfl,rfl,rfl,rfl,rfl,rfl,rfl⟩:∃ e:S41,a0_0=e.f0∧a0_1=e.f1.f0∧a0_2=e.f1.f1∧a0_3=e.f1.f2∧a0_4=e.f2∧a0_5=e.f3∧a0_6=e.f4∧l0_7=e.f5:=⟨⟨a0_0,⟨a0_1,a0_2,a0_3⟩,a0_4,a0_5,a0_6,l0_7⟩,rfl,rfl,rfl,rfl,rfl,rfl,rfl,rfl⟩
  have HR0:=zq.mk hr0_7
  have HR1:=zq.mk hr1
  have HL:=zq.mk hL
  have HF:=zq.mk (fun (W:World) (hb:Below (zqb.w0 e A0_7 c0_7 w).heap.size (zqb.w0 e A0_7 c0_7 w) W)=>zqq.calls k e.f0 e.f1.f0 e.f1.f1 e.f1.f2 e.f2 e.f3 e.f4 A0_7 c0_7 e.f5 A1 c1 l1 t W (Kd.zqj hr0_7 (zqb.hr hb)) hc0_7 (Kd.zqj hr1 (zqb.hr hb)) hc1 (LD.below hL (zqb.hr hb)) ht)
  clear hr0_7 hr1 hL ht
  by_cases z:t=0
  · rw [if_pos z] at h
    subst z
    have HS:=zq.mk h
    clear h
    go_enter Tryd.func16,Tryd.ntmps16
    go_wp2_with (go_at_call 38;(with_reducible refine(zo.lift (W0:=zqb.w0 e A0_7 c0_7 w) (Below.refl _ _) (HF.out _ (Below.refl _ _))).mono ?_);rintro z w1 ⟨rfl,hb1⟩;have HB1:=zq.mk hb1;cases zqb.kp hb1;clear hb1)
    have HRB:=zq.mk (zqb.hr HB1.out)
    first|fail|(go_region_with (first
      | (go_at_call 40;refine(zk.made l1 A1 l1.length c1 _).mono ?_;rintro x w2 ⟨rfl,rfl⟩)
      | (go_at_call 39;refine(zqb.with_ l1 k _ 12 e A0_7 c0_7 r1 r2 r3 r4 _ ⟨LD.below HL.out (by repeat(first|exact HRB.out|apply zp|apply qc|apply zqa)),A1,c1,by simp [go_sem],Kd.zqj HR1.out (by repeat(first|exact HRB.out|apply zp|apply qc|apply zqa))⟩ (Kd.zqj HR0.out (by repeat(first|exact HRB.out|apply zp|apply qc|apply zqa))) hc0_7 HS.out).mono ?_;rintro x w3 ⟨rfl,hb3⟩;have HB3:=zq.mk (((by repeat(first|exact HB1.out|apply zp|apply qc|apply zqa)):Below (zqb.w0 e A0_7 c0_7 w).heap.size (zqb.w0 e A0_7 c0_7 w) _).trans (hb3.mono (zy (by repeat(first|exact HB1.out|apply zp|apply qc|apply zqa)))));clear hb3;cases zqb.kp HB3.out)))|fail
    all_goals
      go_wp2
      have HVX:=(zr (zr (zr (zqb.hz HB3.out) 0 (.int .i64 r1) rfl) 1 (.int .i64 r2) rfl) 2 (.string r3) rfl)
      refine bodyPost_ret (qg (rs := [.cell 4 38,.tmp 5]) rfl (by simp) (.cell (w.heap.size+1) 38 _ (0,0) _ rfl HVX huv rfl (by kernel_rfl) (.tmp .nil))) rfl ?_
      exact⟨rfl,(((zqb.hr HB3.out).setCell (p:=⟨w.heap.size+1,0,none⟩) (by simp <;> omega) _).setCell (p:=⟨w.heap.size+1,1,none⟩) (by simp <;> omega) _).setCell (p:=⟨w.heap.size+1,2,none⟩) (by simp <;> omega) _⟩
  rw [if_neg z] at h
  obtain ⟨rfl,rfl,rfl,rfl⟩:0=r1∧0=r2∧(⟨#[]⟩:ByteArray)=r3∧t=r4:=by simpa using h
  have dz:(t != 0)=true:=by simpa using z
  clear h z
  go_enter Tryd.func16,Tryd.ntmps16
  go_wp2_with (go_at_call 38;(with_reducible refine(zo.lift (W0:=zqb.w0 e A0_7 c0_7 w) (Below.refl _ _) (HF.out _ (Below.refl _ _))).mono ?_);rintro z w1 ⟨rfl,hb1⟩;have HB1:=zq.mk hb1;cases zqb.kp hb1;clear hb1)
  have HVX:=(zr (zr (zr (zqb.hz HB1.out) 0 (.int .i64 0) rfl) 1 (.int .i64 0) rfl) 2 (.string ⟨#[]⟩) rfl)
  refine bodyPost_ret (qg (rs := [.cell 4 38,.tmp 5]) rfl (by simp) (.cell (w.heap.size+1) 38 _ (0,0) _ rfl HVX huv rfl (by kernel_rfl) (.tmp .nil))) rfl ?_
  exact⟨rfl,(((zqb.hr HB1.out).setCell (p:=⟨w.heap.size+1,0,none⟩) (by simp <;> omega) _).setCell (p:=⟨w.heap.size+1,1,none⟩) (by simp <;> omega) _).setCell (p:=⟨w.heap.size+1,2,none⟩) (by simp <;> omega) _⟩

end Go.Proofs.YthhejedfjgikdaaDoor.PRelProjects
