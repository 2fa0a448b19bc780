/- When a table is right: the program's answer and the reference's, in plain Lean. No conditions. -/
import Derived.Test.YtgeomhdbckjkcaaW21CodeOk
set_option linter.unusedVariables false
set_option linter.unusedSimpArgs false
set_option linter.unnecessarySimpa false
namespace Go.Own.Q
open Go Go.Proofs

theorem strLt_not : ∀ (a b : List UInt8), (!strLt a b) = (strLt b a || decide (b = a))
 | a, [] => by cases a <;> rfl
 | [], y :: b => rfl
 | x :: a, y :: b => by
  have ih : (!Op.bytesLess a b) = (Op.bytesLess b a || decide (b = a)) := strLt_not a b
  show (!(decide (x < y) || ((x == y) && Op.bytesLess a b))) = ((decide (y < x) || ((y == x) && Op.bytesLess b a)) || decide (y :: b = x :: a))
  by_cases h : x = y
  ·subst h
   have : ¬ x < x := by rw [UInt8.lt_iff_toNat_lt]; omega
   rw [decide_eq_false this]
   simp only [beq_self_eq_true, Bool.true_and, Bool.false_or, List.cons.injEq, true_and]
   exact ih
  ·have h2 : ¬ y = x := fun e => h e.symm
   have e1 : (x == y) = false := beq_eq_false_iff_ne.2 h
   have e2 : (y == x) = false := beq_eq_false_iff_ne.2 h2
   have e3 : decide (y :: b = x :: a) = false := decide_eq_false (by simp [h2])
   rw [e1, e2, e3]
   have hn : x.toNat ≠ y.toNat := fun e => h (UInt8.toNat_inj.1 e)
   by_cases h3 : x < y
   ·have : ¬ y < x := by rw [UInt8.lt_iff_toNat_lt] at *; omega
    rw [decide_eq_true h3, decide_eq_false this]; rfl
   ·have : y < x := by rw [UInt8.lt_iff_toNat_lt] at *; omega
    rw [decide_eq_false h3, decide_eq_true this]; rfl
def entryB (e : S_impl_Entry) : Bool := (atomOk e.f0 && ((decide (1 ≤ e.f1) && decide (e.f1 ≤ 10000)) && (codeB e.f2 e.f3 && codeB e.f5 e.f6))) && (bif e.f4 then decide (2 ≤ e.f1) else decide ((e.f5.length : Int) = 0) && decide ((e.f6.length : Int) = 0))
theorem wEntry_e (e : S_impl_Entry) : wEntry e = 3 + e.f0.length + (3 + dl wFn e.f2 + dl wPat e.f3) + (3 + dl wFn e.f5 + dl wPat e.f6) := rfl
theorem spec_Entry_ok (n : Nat) (hn : n ≤ 1099511627776) (e : S_impl_Entry) (h : wEntry e + 400 < n) : p_spec_l12Entry n e.f0 e.f1 e.f2 e.f3 e.f4 e.f5 e.f6 = some (entryB e) := by
 rw [wEntry_e] at h
 unfold p_spec_l12Entry entryB
 have e2 : decide ((1 : Int) < e.f1) = decide ((2 : Int) ≤ e.f1) := decide_eq_decide.2 (by omega)
 rw [spec_AtomOk_ok n e.f0 (by omega) (by omega), l1In_ok, spec_CodeOk_ok n hn e.f2 e.f3 (by omega) (by omega), spec_CodeOk_ok n hn e.f5 e.f6 (by omega) (by omega), e2]
 simp only [Option.bind_some]
 generalize (decide (1 ≤ e.f1) && decide (e.f1 ≤ 10000)) = q1
 generalize decide (2 ≤ e.f1) = q2
 cases atomOk e.f0 <;> cases q1 <;> cases codeB e.f2 e.f3 <;> cases codeB e.f5 e.f6 <;> cases e.f4 <;> cases decide ((e.f5.length : Int) = 0) <;> rfl
theorem impl_Entry_ok (n : Nat) (hn : n ≤ 1099511627776) (e : S_impl_Entry) (h : wEntry e + 400 < n) : p_impl_entryOk n e.f0 e.f1 e.f2 e.f3 e.f4 e.f5 e.f6 = some (entryB e) := by
 rw [wEntry_e] at h
 unfold p_impl_entryOk entryB
 rw [impl_AtomOk_ok n e.f0 (by omega) (by omega), inRange_ok, impl_CodeOk_ok n hn e.f2 e.f3 (by omega) (by omega), impl_CodeOk_ok n hn e.f5 e.f6 (by omega) (by omega)]
 simp only [Option.bind_some]
 generalize (decide (1 ≤ e.f1) && decide (e.f1 ≤ 10000)) = q1
 generalize decide (2 ≤ e.f1) = q2
 cases atomOk e.f0 <;> cases q1 <;> cases codeB e.f2 e.f3 <;> cases codeB e.f5 e.f6 <;> cases e.f4 <;> cases decide ((e.f5.length : Int) = 0) <;> rfl
def prevB (l : List S_impl_Entry) (j : Nat) (e : S_impl_Entry) : Bool := match j with
 | 0 => true
 | j + 1 => match l[j]? with
  | some p => strLt p.f0 e.f0
  | none => false
def tableB (l : List S_impl_Entry) : Bool := allI (fun j e => entryB e && prevB l j e) 0 l && decide ((l.length : Int) ≤ 10)
theorem spec_TableOk_ok (n : Nat) (hn : n ≤ 1099511627776) (l : List S_impl_Entry) (h : dl wEntry l + 400 < n) : p_spec_TableOk n l = some (tableB l) := by
 have hl := dl_len wEntry l
 unfold p_spec_TableOk tableB
 rw [loop_okI l (fun j e => entryB e && prevB l j e) (fun j e hj => by
  have hk := lt_len hj
  have hm := dl_mem wEntry (List.mem_of_getElem? hj)
  simp only [p_spec_TableOk_b1, lt_int hj, cond_true, ix_nat, hj, Option.bind_some, spec_Entry_ok n hn e (by omega), wrap_succ (show j < 4611686018427387904 by omega)]
  cases entryB e with
  | false => rfl
  | true =>
   simp only [Bool.not_true, cond_false, Bool.true_and]
   cases j with
   | zero => rfl
   | succ j =>
    have hg : l[j]? = some l[j] := List.getElem?_eq_getElem (by omega)
    generalize l[j] = p at hg
    have hpv : prevB l (j + 1) e = strLt p.f0 e.f0 := by show (match l[j]? with | some p => strLt p.f0 e.f0 | none => false) = _; rw [hg]
    rw [hpv, decide_eq_true (show (0 : Int) < ((j + 1 : Nat) : Int) by omega), wrap_pred (by omega), ix_nat, hg]
    simp only [cond_true, Option.bind_some]
    cases strLt p.f0 e.f0 <;> rfl) (by simp only [p_spec_TableOk_b1, not_lt_int, cond_false]) (by omega)]
 generalize allI _ 0 l = q
 cases q <;> rfl
theorem impl_TableOk_ok (n : Nat) (hn : n ≤ 1099511627776) (l : List S_impl_Entry) (h : dl wEntry l + 400 < n) : p_impl_TableOk n l = some (tableB l) := by
 have hl := dl_len wEntry l
 unfold p_impl_TableOk tableB
 rw [loop_okI l (fun j e => entryB e && prevB l j e) (fun j e hj => by
  have hk := lt_len hj
  have hm := dl_mem wEntry (List.mem_of_getElem? hj)
  simp only [p_impl_TableOk_b1, lt_int hj, cond_true, ix_nat, hj, Option.bind_some, impl_Entry_ok n hn e (by omega), wrap_succ (show j < 4611686018427387904 by omega)]
  cases entryB e with
  | false => rfl
  | true =>
   simp only [Bool.not_true, cond_false, Bool.true_and]
   cases j with
   | zero => rfl
   | succ j =>
    have hg : l[j]? = some l[j] := List.getElem?_eq_getElem (by omega)
    generalize l[j] = p at hg
    have hpv : prevB l (j + 1) e = strLt p.f0 e.f0 := by show (match l[j]? with | some p => strLt p.f0 e.f0 | none => false) = _; rw [hg]
    rw [hpv, decide_eq_true (show (0 : Int) < ((j + 1 : Nat) : Int) by omega), wrap_pred (by omega), ix_nat, hg]
    simp only [cond_true, Option.bind_some, ← strLt_not]
    cases strLt p.f0 e.f0 <;> rfl) (by simp only [p_impl_TableOk_b1, not_lt_int, cond_false]) (by omega)]
 generalize allI _ 0 l = q
 cases q <;> rfl
end Go.Own.Q
