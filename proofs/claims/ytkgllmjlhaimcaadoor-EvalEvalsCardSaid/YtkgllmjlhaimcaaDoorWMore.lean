-- PRINTED BY print.sh 35421559b90ae4d0a3588c463048766b98c2df88dd9212a6774a882060cdf62d: not written by this session
-- PRINTED WORDS (module Derived/Print/More.lean): go-gate-2's additions: an AI agent of Go's test side, Tue Nov 17 2026; no person has read it. Lean checks it.
import Derived.Test.YtkgllmjlhaimcaaDoorWQPut
import Derived.Test.YtkgllmjlhaimcaaDoorWNEv
namespace Go.Proofs.YtkgllmjlhaimcaaDoorW.PrintMore
open Go.RowKit Go.Proofs.YtkgllmjlhaimcaaDoorW.PrintWords
namespace Kd
open Go.Proofs.YtkgllmjlhaimcaaDoorW.PrintWords.Kd
end Kd

namespace Kd
open Go.Proofs.YtkgllmjlhaimcaaDoorW.PrintWords.Kd
section
variable {α:Type} {d:Kd α} {e base g N:Nat} {ok:Nat→Prop} {W w1:World} {u v:Value} {xs:List α}
end
end Kd
theorem zje (k k':IntKind) (x y:Int):Builtin.max2 (.int k x) (.int k' y)=pure (.int k (if x<y then y else x)):=by simp only [Builtin.max2,gt_iff_lt]
theorem zjc (k k':IntKind) (x y:Int):Builtin.min2 (.int k x) (.int k' y)=pure (.int k (if y<x then y else x)):=by simp only [Builtin.min2]
theorem zjo (ats:Array TypeId) (ty:TypeId) (a b:Value):Builtin.max_ ats ty #[a,b]=(Builtin.max2 a b >>= fun s=>pure s):=by simp only [Builtin.max_,List.foldlM_cons,List.foldlM_nil]
theorem zjn (ats:Array TypeId) (ty:TypeId) (a b:Value):Builtin.min_ ats ty #[a,b]=(Builtin.min2 a b >>= fun s=>pure s):=by simp only [Builtin.min_,List.foldlM_cons,List.foldlM_nil]
theorem zq4 (ats:Array TypeId) (ty:TypeId) (a b c:Value):Builtin.max_ ats ty #[a,b,c]=(Builtin.max2 a b >>= fun s=>Builtin.max2 s c >>= fun s=>pure s):=by simp only [Builtin.max_,List.foldlM_cons,List.foldlM_nil]
theorem zq3 (ats:Array TypeId) (ty:TypeId) (a b c:Value):Builtin.min_ ats ty #[a,b,c]=(Builtin.min2 a b >>= fun s=>Builtin.min2 s c >>= fun s=>pure s):=by simp only [Builtin.min_,List.foldlM_cons,List.foldlM_nil]
theorem zjd (ats:Array TypeId) (ty:TypeId) (a b c d:Value):Builtin.max_ ats ty #[a,b,c,d]=(Builtin.max2 a b >>= fun s=>Builtin.max2 s c >>= fun s=>Builtin.max2 s d >>= fun s=>pure s):=by simp only [Builtin.max_,List.foldlM_cons,List.foldlM_nil]
theorem zjb (ats:Array TypeId) (ty:TypeId) (a b c d:Value):Builtin.min_ ats ty #[a,b,c,d]=(Builtin.min2 a b >>= fun s=>Builtin.min2 s c >>= fun s=>Builtin.min2 s d >>= fun s=>pure s):=by simp only [Builtin.min_,List.foldlM_cons,List.foldlM_nil]
end Go.Proofs.YtkgllmjlhaimcaaDoorW.PrintMore
namespace Go.Proofs.YtkgllmjlhaimcaaDoorW.PrintWords
open Go.RowKit
section
variable {P:Program} {ops:Array Oper} {rest:List Oper} {o:Oper} {a:Act} {Q:Exit→Act→World→Prop} {W:World}
theorem zo {f:FuncId} {as:Array Operand} {ts:Array TypeId} (_ho:o.op = .call { callee:=.value (.func f),args:=as,argTypes:=ts }) (h:wpList P ops Q (o :: rest) a W):wpList P ops Q (o :: rest) a W:=h
theorem gate_builtin {b:Builtin} {xs:Array Operand} {ts:Array TypeId} (_ho:o.op = .call { callee:=.builtin b,args:=xs,argTypes:=ts }) (h:wpList P ops Q (o :: rest) a W):wpList P ops Q (o :: rest) a W:=h
end
def mx (a b:Int):Int:=if a<b then b else a
def mn (a b:Int):Int:=if b<a then b else a
namespace Kd
section
variable {α:Type} {d:Kd α} {e base:Nat} {ok:Nat→Prop} {W w1:World} {v:Value} {xs:List α}
end
section
variable {α:Type} {d:Kd α} {e base g n cap:Nat} {ok oki okp:Nat→Prop} {W:World} {xs:List α} {i:Int} {c:List Value}
end
section
variable {α:Type} {d:Kd α} {e base b b' g N:Nat} {ok ok1:Nat→Prop} {W W2 w1:World} {u v:Value} {xs ys:List α} {S:Nat→Prop}
end
end Kd
end Go.Proofs.YtkgllmjlhaimcaaDoorW.PrintWords
namespace Go.Proofs.YtkgllmjlhaimcaaDoorW.PrintWords
open Go.RowKit
namespace Kd
section
variable {α β:Type} {d:Kd α} {e base base' n m c g N' lo hi:Nat} {ok ok' S:Nat→Prop} {w W w1:World} {A:Option Addr} {ad:Addr} {u v v1:Value} {xs:List α}
end
end Kd
structure Up (w w':World):Prop where mk :: (b:Below w.heap.size w w')
theorem Up.r (w:World):Up w w:=⟨Below.refl _ _⟩
theorem Up.a {w w':World} {o:Obj} (h:Up w w'):Up w (w'.alloc o):=⟨zn h.b o⟩
theorem Up.n {w w':World} {n:Nat} (h:Up w w'):Up w (w'.drewN n):=⟨qp h.b n⟩
theorem Up.d {w w':World} (h:Up w w'):Up w w'.drew:=⟨ql h.b⟩
theorem up {w w':World} {g:Nat} {o:Obj} (h:w.heap[g]? = some o) (i:Up w w':=by with_reducible repeat(first|exact Up.r _|apply Up.a|apply Up.n|apply Up.d)):w'.heap[g]? = some o:=(i.b.block g (qd h)).trans h
theorem bw {p:Prop} (h:p:=by repeat(first|(with_reducible first|exact HB.out|apply zn|apply qp|apply ql|refine below_set ?_ (zq.out (by assumption)))|exact HB.out)):p:=h
theorem vr {p:Prop} (h:p:=by first|rfl|(simp;done)|(simp [*];done)|(generalize ByteArray.toList _=q_;cases q_ <;> rfl)):p:=h
theorem dt {p:Prop} [Decidable p] (h:decide p=true:=by first|(with_reducible assumption)|assumption):p:=of_decide_eq_true h
theorem gs {p:Prop} (h:p:=by(try simp only [List.map_toArray,List.map_cons,List.map_nil]);first|done|rfl|(simp only [List.length_drop,List.length_take];rfl)):p:=h
namespace Kd
theorem cu {α:Type} {d:Kd α} {w w':World} {A:Option Addr} {n:Nat} {xs:List α} (h:d.C w A n xs) (i:Up w w':=by with_reducible repeat(first|exact Up.r _|apply Up.a|apply Up.n|apply Up.d)):d.C w' A n xs:=zqe h i.b
theorem ru {α:Type} {d:Kd α} {e base:Nat} {ok:Nat→Prop} {v:Value} {w w':World} {xs:List α} (h:Kd.R d e w base ok v xs) (i:Up w w':=by with_reducible repeat(first|exact Up.r _|apply Up.a|apply Up.n|apply Up.d)):Kd.R d e w' base ok v xs:=zja h i.b
end Kd
end Go.Proofs.YtkgllmjlhaimcaaDoorW.PrintWords
