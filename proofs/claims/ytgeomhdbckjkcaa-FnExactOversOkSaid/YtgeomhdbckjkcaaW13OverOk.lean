/- The law FnExactOverOk, in plain Lean. No conditions. -/
import Derived.Test.YtgeomhdbckjkcaaW13KidOk
set_option linter.unusedVariables false
set_option linter.unusedSimpArgs false
set_option linter.unnecessarySimpa false
namespace Go.Own.Q
open Go Go.Proofs

def overOk (a0 a1 a2 : Int) (a3 : List S_impl_Kid) (a4 a5 : List Int) : Bool :=
  (decide (1 ≤ a0) && decide (a0 ≤ 3)) && ((decide (0 ≤ a1) && decide (a1 ≤ 20)) && ((decide (1 ≤ a2) && decide (a2 ≤ 1000)) && ((decide (1 ≤ (a3.length : Int)) && decide ((a3.length : Int) ≤ 8)) && (decide ((a4.length : Int) = (a3.length : Int)) && (decide ((a5.length : Int) ≤ a1) &&
    (a3.all kidX && (a4.all (fun p => decide (0 ≤ p)) && !anyDn (badS a5) (a5.length - 1))))))))
theorem impl_OverOk_ok (n : Nat) (a0 a1 a2 : Int) (a3 : List S_impl_Kid) (a4 a5 : List Int) (a6 : Bool) (h : wOver (.mk a0 a1 a2 a3 a4 a5 a6) < n) (hn : n < 4611686018427387904) : p_impl_OverOk n a0 a1 a2 a3 a4 a5 a6 = some (overOk a0 a1 a2 a3 a4 a5) := by
  simp only [wOver] at h
  have l3 := dl_len wKid a3
  have l4 := dl_len (fun _ => 0) a4
  have l5 := dl_len (fun _ => 0) a5
  unfold p_impl_OverOk overOk
  rw [loop_ok a3 kidX (fun i k ha => by
    have hm := dl_mem wKid (List.mem_of_getElem? ha)
    have hi := lt_len ha
    simp only [p_impl_OverOk_b1, lt_int ha, cond_true, ix_nat, ha, Option.bind_some, wrap_succ (show i < 4611686018427387904 by omega)]
    rw [kidOk_ok n _ _ _ _ _ _ _ (by rw [S_impl_Kid_eta]; omega) hn]
    simp only [Option.bind_some]
    show _ = some (if kidB k.f0 k.f1 (.mk k.f2 k.f3 k.f4 k.f5) k.f6 = true then _ else _)
    cases kidB k.f0 k.f1 (.mk k.f2 k.f3 k.f4 k.f5) k.f6 <;> rfl) (by simp only [p_impl_OverOk_b1, not_lt_int, cond_false]) (by omega)]
  rw [loop_ok a4 (fun p => decide (0 ≤ p)) (fun i p ha => by
    have hi := lt_len ha
    simp only [p_impl_OverOk_b2, lt_int ha, cond_true, ix_nat, ha, Option.bind_some, wrap_succ (show i < 4611686018427387904 by omega)]
    by_cases c : 0 ≤ p
    · rw [decide_eq_true c, decide_eq_false (by omega)]; rfl
    · rw [decide_eq_false c, decide_eq_true (by omega)]; rfl) (by simp only [p_impl_OverOk_b2, not_lt_int, cond_false]) (by omega)]
  rw [isSorted_ok n a5 (by omega) hn]
  simp only [inRange_ok, Option.bind_some]
  cases a3.all kidX <;> cases a4.all (fun p => decide (0 ≤ p)) <;> cases (decide (1 ≤ a0) && decide (a0 ≤ 3)) <;> cases (decide (0 ≤ a1) && decide (a1 ≤ 20)) <;> cases (decide (1 ≤ a2) && decide (a2 ≤ 1000)) <;> cases (decide (1 ≤ (a3.length : Int)) && decide ((a3.length : Int) ≤ 8)) <;> cases decide ((a4.length : Int) = (a3.length : Int)) <;> cases decide ((a5.length : Int) ≤ a1) <;> cases anyDn (badS a5) (a5.length - 1) <;> rfl
def pidB (l : List Int) (i : Nat) (k : S_impl_Kid) : Bool := kidX k && decide (0 ≤ l.getD i 0)
theorem pid_all (a3 : List S_impl_Kid) (a4 : List Int) (h : a4.length = a3.length) : allI (pidB a4) 0 a3 = (a3.all kidX && a4.all (fun p => decide (0 ≤ p))) := by
  rw [Bool.eq_iff_iff, allI_iff, Bool.and_eq_true, List.all_eq_true, List.all_eq_true]
  unfold pidB
  constructor
  · intro h1
    refine ⟨fun k hk => ?_, fun p hp => ?_⟩
    · obtain ⟨j, hj⟩ := List.getElem?_of_mem hk
      have := h1 j k hj
      simp only [Bool.and_eq_true] at this
      exact this.1
    · obtain ⟨j, hj⟩ := List.getElem?_of_mem hp
      have hlt := lt_len hj
      have := h1 j a3[j] (List.getElem?_eq_getElem (by omega))
      simp only [Bool.and_eq_true, Nat.zero_add] at this
      rw [getD_of hlt] at hj
      cases hj
      exact this.2
  · rintro ⟨h1, h2⟩ j k hk
    have hlt := lt_len hk
    simp only [Bool.and_eq_true, Nat.zero_add]
    exact ⟨h1 k (List.mem_of_getElem? hk), h2 _ (List.mem_of_getElem? (getD_of (by omega)))⟩
theorem spec_OverOk_ok (n : Nat) (a0 a1 a2 : Int) (a3 : List S_impl_Kid) (a4 a5 : List Int) (a6 : Bool) (h : wOver (.mk a0 a1 a2 a3 a4 a5 a6) < n) (hn : n < 4611686018427387904) : p_spec_OverOk n a0 a1 a2 a3 a4 a5 a6 = some (overOk a0 a1 a2 a3 a4 a5) := by
  simp only [wOver] at h
  have l3 := dl_len wKid a3
  have l5 := dl_len (fun _ => 0) a5
  unfold p_spec_OverOk overOk
  simp only [l1In_ok, Option.bind_some]
  obtain ⟨x, hx⟩ := spec_sorted n a5 (by omega) hn
  rw [hx]
  by_cases c : (a4.length : Int) = (a3.length : Int)
  · have hc : a4.length = a3.length := by omega
    rw [decide_eq_true c]
    rw [loop_okI a3 (pidB a4) (fun i k ha => by
      have hm := dl_mem wKid (List.mem_of_getElem? ha)
      have hi := lt_len ha
      simp only [p_spec_OverOk_b1, lt_int ha, cond_true, ix_nat, ha, getD_of (show i < a4.length by omega), Option.bind_some, wrap_succ (show i < 4611686018427387904 by omega)]
      rw [l14Kid_ok n _ _ _ _ _ _ _ (by rw [S_impl_Kid_eta]; omega) hn]
      simp only [Option.bind_some]
      show _ = some (if (kidB k.f0 k.f1 (.mk k.f2 k.f3 k.f4 k.f5) k.f6 && _) = true then _ else _)
      by_cases c : 0 ≤ a4.getD i 0
      · rw [decide_eq_true c, decide_eq_false (by omega)]
        cases kidB k.f0 k.f1 (.mk k.f2 k.f3 k.f4 k.f5) k.f6 <;> rfl
      · rw [decide_eq_false c, decide_eq_true (by omega)]
        cases kidB k.f0 k.f1 (.mk k.f2 k.f3 k.f4 k.f5) k.f6 <;> rfl) (by simp only [p_spec_OverOk_b1, not_lt_int, cond_false]) (by omega)]
    rw [pid_all a3 a4 hc]
    by_cases c2 : (a5.length : Int) ≤ a1
    · rw [decide_eq_true c2, decide_eq_false (show ¬ a1 < (a5.length : Int) by omega)]
      cases a3.all kidX <;> cases a4.all (fun p => decide (0 ≤ p)) <;> cases (decide (1 ≤ a0) && decide (a0 ≤ 3)) <;> cases (decide (0 ≤ a1) && decide (a1 ≤ 20)) <;> cases (decide (1 ≤ a2) && decide (a2 ≤ 1000)) <;> cases (decide (1 ≤ (a3.length : Int)) && decide ((a3.length : Int) ≤ 8)) <;> cases anyDn (badS a5) (a5.length - 1) <;> rfl
    · rw [decide_eq_false c2, decide_eq_true (show a1 < (a5.length : Int) by omega)]
      cases (decide (1 ≤ a0) && decide (a0 ≤ 3)) <;> cases (decide (0 ≤ a1) && decide (a1 ≤ 20)) <;> cases (decide (1 ≤ a2) && decide (a2 ≤ 1000)) <;> cases (decide (1 ≤ (a3.length : Int)) && decide ((a3.length : Int) ≤ 8)) <;> rfl
  · rw [decide_eq_false c]
    cases (decide (1 ≤ a0) && decide (a0 ≤ 3)) <;> cases (decide (0 ≤ a1) && decide (a1 ≤ 20)) <;> cases (decide (1 ≤ a2) && decide (a2 ≤ 1000)) <;> cases (decide (1 ≤ (a3.length : Int)) && decide ((a3.length : Int) ≤ 8)) <;> rfl
end Go.Own.Q
