-- PRINTED BY print.sh 35421559b90ae4d0a3588c463048766b98c2df88dd9212a6774a882060cdf62d: not written by this session
import Derived.Test.YtkgllmjlhaimcaaDoorWInv
import Derived.Test.YtkgllmjlhaimcaaDoorWFootNe
namespace Go.Proofs.YtkgllmjlhaimcaaDoorW.PrintWords
open Go.RowKit
end Go.Proofs.YtkgllmjlhaimcaaDoorW.PrintWords
namespace Go.Proofs.YtkgllmjlhaimcaaDoorW.PrintLast
section
variable {ops:Array Oper} {a:Act} {o og:Oper} {g:Nat} {t:Tmp} {u:Bool}
theorem eval_of {v:Value} (h:a.tmps[t]? = some v):a.eval (.tmp t)=v:=by simp [Act.eval,h]
end
end Go.Proofs.YtkgllmjlhaimcaaDoorW.PrintLast
