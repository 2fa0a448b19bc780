/- Code in bytes: the program's and the reference's, in plain Lean. No conditions. -/
import Derived.Test.YtgeomhdbckjkcaaW24PutNum
set_option linter.unusedVariables false
set_option linter.unusedSimpArgs false
set_option linter.unnecessarySimpa false
namespace Go.Own.Q
open Go Go.Proofs

theorem KU(n:Nat)(hn:n≤1099511627776)(fs:List aG)(ps:List aB)(h:dl cS ps+400<n):kM n fs ps=some (ps.all (Cd 400)):=by
 have hl:=bM cS ps
 unfold kM
 rw[ML ps (Cd 400) (fun i a ha=>by
  have hi:=cH ha
  have hm:=eA cS (List.mem_of_getElem? ha)
  simp only[jW,cW ha,cond_true,cQ,ha,Option.bind_some,tU n hn a 400 (by omega),aV (show i<4611686018427387904 by omega)]
  cases Cd 400 a<;>rfl) (by simp only[jW,aQ,cond_false]) (by omega)]
 cases ps.all (Cd 400)<;>rfl
end Go.Own.Q
