/- Lemmas. No conditions. -/
import Derived.Test.YtgeomhdbckjkcaaW22Words
set_option linter.unusedVariables false
set_option linter.unusedSimpArgs false
namespace Go.Own.Q
open Go Go.Proofs
def pH(k m:Int)(s:List UInt8)(len:Nat):Bool:=
 bif decide (k=1)then((decide (-1000000000000≤m)&&decide (m≤1000000000000))&&decide (s=[]))&&decide ((len:Int)=0)
 else bif decide (k=2)then(uB s&&decide (m=0))&&decide ((len:Int)=0)
 else bif decide (k=3)then((decide (0≤m)&&decide (m≤1000000))&&decide (s=[]))&&decide ((len:Int)=0)
 else bif decide (k=4)then(decide (m=0)&&decide (s=[]))&&decide ((len:Int)≤20)
 else bif decide (k=5)then(decide (m=0)&&decide (s=[]))&&decide ((len:Int)≤60)
 else false
theorem Ld(n:Nat)(k m:Int)(s:List UInt8)(l:List aB)(h:s.length<n)(hn:s.length<4611686018427387904):kH n k m s l=some (pH k m s l.length):=by
 unfold kH pH
 rw[vS n s h hn]
 simp only[tF,Option.bind_some]
 cases decide (k=1)<;>cases decide (k=2)<;>cases decide (k=3)<;>cases decide (k=4)<;>cases decide (k=5)<;>cases decide (-1000000000000≤m)<;>cases decide (m≤1000000000000)<;>cases decide (s=[])<;>cases decide (m=0)<;>cases decide (0≤m)<;>cases decide (m≤1000000)<;>cases uB s<;>rfl
theorem LW(n:Nat)(k m:Int)(s:List UInt8)(l:List aB)(h:s.length<n)(hn:s.length<4611686018427387904):fC n k m s l=some (pH k m s l.length):=by
 unfold fC pH
 rw[vW n s h hn]
 simp only[uT,Option.bind_some]
 cases decide (k=1)<;>cases decide (k=2)<;>cases decide (k=3)<;>cases decide (k=4)<;>cases decide (k=5)<;>cases decide (-1000000000000≤m)<;>cases decide (m≤1000000000000)<;>cases decide (s=[])<;>cases decide (m=0)<;>cases decide (0≤m)<;>cases decide (m≤1000000)<;>cases uB s<;>rfl
end Go.Own.Q
