/- What is right by itself, in plain Lean. No conditions. -/
import Derived.Test.YtgeomhdbckjkcaaW24Char
set_option linter.unusedVariables false
set_option linter.unusedSimpArgs false
set_option linter.unnecessarySimpa false
namespace Go.Own.Q
open Go Go.Proofs

/-! by itself -/
def BG(k m:Int)(s:List UInt8)(ne:Int):Bool:=
 bif decide (k=1)then(decide (0≤m)&&decide (m≤1000000000000))&&(decide (s=[])&&decide (ne=0))
 else bif decide (k=2)then decide (m=0)&&(gU s&&decide (ne=0))
 else bif decide (k=3)then decide (m=0)&&(HL s&&decide (ne=0))
 else bif decide (k=4)then decide (m=0)&&(decide (s=[])&&decide (ne≤20))
 else bif decide (k=5)then decide (m=0)&&(decide (s=[])&&decide (ne≤20))
 else bif decide (k=6)then decide (m=0)&&(decide (s=[])&&(decide (2≤ne)&&decide (ne≤6)))
 else bif decide (k=7)then decide (m=0)&&(LO s&&decide (ne=2))
 else bif decide (k=8)then decide (m=0)&&(gU s&&decide (ne≤4))
 else bif decide (k=9)then decide (m=0)&&(decide (s=[])&&decide (ne=1))
 else false
theorem KO(n:Nat)(k m:Int)(s:List UInt8)(ne:Int)(h:s.length<n)(hn:s.length<4611686018427387904):kL n k m s ne=some (BG k m s ne):=by
 unfold kL BG
 rw[zB n s h hn,Ff n s h hn,MT n s]
 simp only[lF,Option.bind_some]
 cases decide (k=1)with
 | true=>cases decide (0≤m)<;>cases decide (m≤1000000000000)<;>cases decide (s=[])<;>rfl
 | false=>
 cases decide (k=2)with
 | true=>cases decide (m=0)<;>cases gU s<;>rfl
 | false=>
 cases decide (k=3)with
 | true=>cases decide (m=0)<;>cases HL s<;>rfl
 | false=>
 cases decide (k=4)with
 | true=>cases decide (m=0)<;>cases decide (s=[])<;>rfl
 | false=>
 cases decide (k=5)with
 | true=>cases decide (m=0)<;>cases decide (s=[])<;>rfl
 | false=>
 cases decide (k=6)with
 | true=>cases decide (m=0)<;>cases decide (s=[])<;>rfl
 | false=>
 cases decide (k=7)with
 | true=>cases decide (m=0)<;>cases LO s<;>rfl
 | false=>
 cases decide (k=8)with
 | true=>cases decide (m=0)<;>cases gU s<;>rfl
 | false=>
 cases decide (k=9)with
 | true=>cases decide (m=0)<;>cases decide (s=[])<;>rfl
 | false=>rfl
end Go.Own.Q
