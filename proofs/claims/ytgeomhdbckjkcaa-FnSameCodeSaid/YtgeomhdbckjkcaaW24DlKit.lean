/- Weights of lists put together. No conditions. -/
import Derived.Test.YtgeomhdbckjkcaaW24DrawKit
set_option linter.unusedVariables false
set_option linter.unusedSimpArgs false
set_option linter.unnecessarySimpa false
namespace Go.Own.Q
open Go Go.Proofs
theorem IQ{α:Type}(w:α→Nat): ∀(a b:List α),dl w (a++b)+1=dl w a+dl w b
 | [],b=>by simp only[List.nil_append,dl]; omega
 | x::r,b=>by have:=IQ w r b; simp only[List.cons_append,dl]; omega
theorem iU{α:Type}(w:α→Nat)(l:List α)(a:α):dl w (l++[a])=dl w l+1+w a:=by
 have:=IQ w l [a]
 simp only[dl]at this
 omega
end Go.Own.Q
