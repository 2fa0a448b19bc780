/- Loops over lists, in plain Lean. No conditions. -/
import Derived.Test.YticdjfieofjcaaaW5Ql1
set_option linter.unusedVariables false
set_option linter.unusedSimpArgs false
set_option linter.unnecessarySimpa false
namespace Go.Own
open Go Go.Proofs

theorem loop_for {σ ρ : Type} {body : σ → Option (σ ⊕ ρ)} (st : Nat → σ) {len : Nat} {r : ρ} (hs : ∀ i, i < len → body (st i) = some (.inl (st (i + 1)))) (he : body (st len) = some (.inr r)) {n : Nat} (hn : len < n) : loopN body n (st 0) = some r := by
  have key : ∀ k i, i + k = len → ∀ n, k < n → loopN body n (st i) = some r := by
    intro k
    induction k with
    | zero =>
      intro i hi n hn
      obtain ⟨m, rfl⟩ : ∃ m, n = m + 1 := ⟨n - 1, by omega⟩
      have : i = len := by omega
      subst this
      simp only [loopN, he]
    | succ k ih =>
      intro i hi n hn
      obtain ⟨m, rfl⟩ : ∃ m, n = m + 1 := ⟨n - 1, by omega⟩
      simp only [loopN, hs i (by omega)]
      exact ih (i + 1) (by omega) m (by omega)
  exact key len 0 (by omega) n hn

/-- A loop that stops at the first that is not so. -/
theorem loop_all {α σ ρ : Type} {body : σ → Option (σ ⊕ ρ)} (l : List α) (ok : α → Bool) (st : Nat → σ) {good bad : ρ} (hs : ∀ (i : Nat) a, l[i]? = some a → ok a = true → body (st i) = some (.inl (st (i + 1)))) (hb : ∀ (i : Nat) a, l[i]? = some a → ok a = false → body (st i) = some (.inr bad))
    (he : body (st l.length) = some (.inr good)) {n : Nat} (hn : l.length < n) : loopN body n (st 0) = some (if l.all ok then good else bad) := by
  by_cases h : l.all ok = true
  · rw [if_pos h]
    refine loop_for st (len := l.length) (fun i hi => ?_) he hn
    exact hs i l[i] (List.getElem?_eq_getElem hi) (List.all_eq_true.1 h _ (List.getElem_mem hi))
  · rw [if_neg h]
    have hk : l.findIdx (fun a => !ok a) < l.length := by
      rw [List.findIdx_lt_length]
      simp only [List.all_eq_true, Classical.not_forall] at h
      obtain ⟨x, hx, h⟩ := h
      exact ⟨x, hx, by simpa using h⟩
    refine loop_for st (len := l.findIdx (fun a => !ok a)) (fun i hi => ?_) ?_ (by omega)
    · have hi2 : i < l.length := by omega
      have := List.not_of_lt_findIdx hi
      exact hs i l[i] (List.getElem?_eq_getElem hi2) (by simpa using this)
    · have := List.findIdx_getElem (w := hk) (p := fun a => !ok a)
      exact hb _ l[l.findIdx (fun a => !ok a)] (List.getElem?_eq_getElem hk) (by simpa using this)

theorem ix_nat {α : Type} (l : List α) (i : Nat) : ix l (i : Int) = l[i]? := by
  unfold ix
  rw [if_pos (by omega)]
  simp
theorem wrap_succ {i : Nat} (h : i < 4611686018427387904) : IntKind.wrap .i64 ((i : Int) + 1) = ((i + 1 : Nat) : Int) := by
  rw [wrap_i64 (by omega) (by omega)]; omega
theorem take_succ' {α : Type} {l : List α} {i : Nat} {a : α} (h : l[i]? = some a) : l.take i ++ [a] = l.take (i + 1) := by
  rw [List.take_add_one, h]; rfl
theorem app2_of {α : Type} {b : Nat} {l1 l2 : List α} (h : (l1.length + l2.length) * b ≤ 140737488355328) (h2 : l1.length + l2.length ≤ maxLen) : app2 b l1 l2 = some (l1 ++ l2) := by
  unfold app2
  rw [if_pos ⟨h2, h⟩]
theorem lt_len {α : Type} {l : List α} {i : Nat} {a : α} (h : l[i]? = some a) : i < l.length := (List.getElem?_eq_some_iff.1 h).1
end Go.Own
