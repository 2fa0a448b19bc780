/- When a term is right: the program's answer and the reference's, in plain Lean. No conditions. -/
import Derived.Test.YtgeomhdbckjkcaaW24GetEnc
set_option linter.unusedVariables false
set_option linter.unusedSimpArgs false
set_option linter.unnecessarySimpa false
namespace Go.Own.Q
open Go Go.Proofs
/-- A term is as told, but for what it has. -/
def shape(k m:Int)(s:List UInt8)(len:Nat):Bool:=
 bif decide (k=1)then((decide (-1000000000000≤m)&&decide (m≤1000000000000))&&decide (s=[]))&&decide ((len:Int)=0)
 else bif decide (k=2)then(zA s&&decide (m=0))&&decide ((len:Int)=0)
 else bif decide (k=3)then((decide (0≤m)&&decide (m≤1000000))&&decide (s=[]))&&decide ((len:Int)=0)
 else bif decide (k=4)then(decide (m=0)&&decide (s=[]))&&decide ((len:Int)≤20)
 else bif decide (k=5)then(decide (m=0)&&decide (s=[]))&&decide ((len:Int)≤60)
 else false
end Go.Own.Q
