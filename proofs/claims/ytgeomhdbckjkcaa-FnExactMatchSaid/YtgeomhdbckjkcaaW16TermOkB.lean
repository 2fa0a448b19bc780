/- When a term is right: the program's answer and the reference's, in plain Lean. No conditions. -/
import Derived.Test.YtgeomhdbckjkcaaW16Words
set_option linter.unusedVariables false
set_option linter.unusedSimpArgs false
set_option linter.unnecessarySimpa false
namespace Go.Own.Q
open Go Go.Proofs
/-- A term is as told, but for what it has. -/
def shape (k m : Int) (s : List UInt8) (len : Nat) : Bool :=
 bif decide (k = 1) then ((decide (-1000000000000 ≤ m) && decide (m ≤ 1000000000000)) && decide (s = [])) && decide ((len : Int) = 0)
 else bif decide (k = 2) then (atomOk s && decide (m = 0)) && decide ((len : Int) = 0)
 else bif decide (k = 3) then ((decide (0 ≤ m) && decide (m ≤ 1000000)) && decide (s = [])) && decide ((len : Int) = 0)
 else bif decide (k = 4) then (decide (m = 0) && decide (s = [])) && decide ((len : Int) ≤ 20)
 else bif decide (k = 5) then (decide (m = 0) && decide (s = [])) && decide ((len : Int) ≤ 60)
 else false
theorem l2Shape_ok (n : Nat) (k m : Int) (s : List UInt8) (l : List S_impl_Term) (h : s.length < n) (hn : s.length < 4611686018427387904) : p_spec_l2Shape n k m s l = some (shape k m s l.length) := by
 unfold p_spec_l2Shape shape
 rw [spec_AtomOk_ok n s h hn]
 simp only [l1In_ok, Option.bind_some]
 cases decide (k = 1) <;> cases decide (k = 2) <;> cases decide (k = 3) <;> cases decide (k = 4) <;> cases decide (k = 5) <;> cases decide (-1000000000000 ≤ m) <;> cases decide (m ≤ 1000000000000) <;> cases decide (s = []) <;> cases decide (m = 0) <;> cases decide (0 ≤ m) <;> cases decide (m ≤ 1000000) <;> cases atomOk s <;> rfl
theorem plainOk_ok (n : Nat) (k m : Int) (s : List UInt8) (l : List S_impl_Term) (h : s.length < n) (hn : s.length < 4611686018427387904) : p_impl_Term_plainOk n k m s l = some (shape k m s l.length) := by
 unfold p_impl_Term_plainOk shape
 rw [impl_AtomOk_ok n s h hn]
 simp only [inRange_ok, Option.bind_some]
 cases decide (k = 1) <;> cases decide (k = 2) <;> cases decide (k = 3) <;> cases decide (k = 4) <;> cases decide (k = 5) <;> cases decide (-1000000000000 ≤ m) <;> cases decide (m ≤ 1000000000000) <;> cases decide (s = []) <;> cases decide (m = 0) <;> cases decide (0 ≤ m) <;> cases decide (m ≤ 1000000) <;> cases atomOk s <;> rfl
end Go.Own.Q
