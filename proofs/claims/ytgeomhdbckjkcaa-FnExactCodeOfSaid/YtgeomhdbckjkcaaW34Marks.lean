/- What is written into slices in place, in plain Lean. No conditions. -/
import Derived.Test.YtgeomhdbckjkcaaW34F34
set_option linter.unusedVariables false
set_option linter.unusedSimpArgs false
set_option linter.unnecessarySimpa false
namespace Go.Own.Q
open Go Go.Proofs

/-- A number carried along a list, each element turned. -/
def mapAcc {α : Type} (F : Nat → α → Nat × α) : Nat → List α → Nat × List α
 | k, [] => (k, [])
 | k, a :: r => ((mapAcc F (F k a).1 r).1, (F k a).2 :: (mapAcc F (F k a).1 r).2)
theorem mapAcc_len {α : Type} (F : Nat → α → Nat × α) : ∀ (l : List α) (k : Nat), (mapAcc F k l).2.length = l.length
 | [], k => rfl
 | a :: r, k => by simp only [mapAcc, List.length_cons, mapAcc_len F r]
theorem mapAcc_le {α : Type} {F : Nat → α → Nat × α} {w : α → Nat} : ∀ {l : List α}, (∀ a ∈ l, ∀ k, (F k a).1 ≤ k + w a) → ∀ k, (mapAcc F k l).1 ≤ k + dl w l
 | [], h, k => by simp [mapAcc]
 | a :: r, h, k => by
  have h1 := h a List.mem_cons_self k
  have h2 := mapAcc_le (l := r) (fun b hb => h b (List.mem_cons_of_mem _ hb)) (F k a).1
  simp only [mapAcc, dl]
  omega
theorem mapAcc_ge {α : Type} {F : Nat → α → Nat × α} : ∀ {l : List α}, (∀ a ∈ l, ∀ k, k ≤ (F k a).1) → ∀ k, k ≤ (mapAcc F k l).1
 | [], h, k => by simp [mapAcc]
 | a :: r, h, k => by
  have h1 := h a List.mem_cons_self k
  have h2 := mapAcc_ge (l := r) (fun b hb => h b (List.mem_cons_of_mem _ hb)) (F k a).1
  simp only [mapAcc]
  omega
theorem mapAcc_leW {α : Type} {F : Nat → α → Nat × α} {w : α → Nat} : ∀ {l : List α}, (∀ a ∈ l, ∀ k, (F k a).1 ≤ k + 1 + w a) → ∀ k, (mapAcc F k l).1 ≤ k + dl w l
 | [], h, k => by simp [mapAcc]
 | a :: r, h, k => by
  have h1 := h a List.mem_cons_self k
  have h2 := mapAcc_leW (l := r) (fun b hb => h b (List.mem_cons_of_mem _ hb)) (F k a).1
  simp only [mapAcc, dl]
  omega
/-- A loop that turns each element in place. -/
theorem loop_markW {α : Type} {body : List α × Int × Int → Option ((List α × Int × Int) ⊕ (List α × Int × Int × Bool))} (F : Nat → α → Nat × α) (w : α → Nat) {B C : Nat} (hF : ∀ a k, (F k a).1 ≤ k + 1 + w a) {len : Nat}
  (hs : ∀ (L : List α) (s i : Nat) a, L.length = len → L[i]? = some a → 0 < s → s + w a < B → w a < C → body (L, (s : Int), (i : Int)) = some (.inl (L.set i (F s a).2, ((F s a).1 : Int), ((i + 1 : Nat) : Int)))) (he : ∀ (L : List α) (s : Nat), L.length = len → body (L, (s : Int), (len : Int)) = some (.inr (L, (s : Int), (len : Int), false)))
  (hF1 : ∀ a k, k ≤ (F k a).1) : ∀ (r p : List α) (k m : Nat), (p ++ r).length = len → 0 < k → k + dl w r ≤ B → dl w r ≤ C → r.length < m → loopN body m (p ++ r, (k : Int), (p.length : Int)) = some (p ++ (mapAcc F k r).2, ((mapAcc F k r).1 : Int), (len : Int), false)
 | [], p, k, m, hl, hk, hB, hC, hm => by
  obtain ⟨m, rfl⟩ : ∃ q, m = q + 1 := ⟨m - 1, by simp at hm; omega⟩
  have e : p.length = len := by simpa using hl
  simp only [List.append_nil, loopN, mapAcc]
  rw [e, he p k e]
 | a :: r, p, k, m, hl, hk, hB, hC, hm => by
  obtain ⟨m, rfl⟩ : ∃ q, m = q + 1 := ⟨m - 1, by simp at hm; omega⟩
  have ha : (p ++ a :: r)[p.length]? = some a := by simp
  have hset : (p ++ a :: r).set p.length (F k a).2 = (p ++ [(F k a).2]) ++ r := by
   rw [List.set_append_right _ _ (Nat.le_refl _), Nat.sub_self, List.set_cons_zero, List.append_assoc]; rfl
  simp only [dl] at hB hC
  have h1 := hF a k
  have h2 := hF1 a k
  simp only [loopN, hs _ k p.length a hl ha hk (by omega) (by omega), hset, mapAcc]
  have := loop_markW F w hF hs he hF1 r (p ++ [(F k a).2]) (F k a).1 m (by rw [← hl]; simp) (by omega) (by omega) (by omega) (by simp at hm; omega)
  rw [List.length_append, List.length_singleton] at this
  rw [this, List.append_assoc]
  rfl
/-- A loop that holds each element against what was written. -/
theorem loop_heldW {α ρ : Type} {body : Int × Int → Option ((Int × Int) ⊕ ρ)} (F : Nat → α → Nat × α) (w : α → Nat) {B C : Nat} (hF : ∀ a k, (F k a).1 ≤ k + 1 + w a) (hF1 : ∀ a k, k ≤ (F k a).1) {L : List α} {out : Nat → ρ}
  (hs : ∀ (s i : Nat) a, L[i]? = some (F s a).2 → 0 < s → s + w a < B → w a < C → body ((s : Int), (i : Int)) = some (.inl (((F s a).1 : Int), ((i + 1 : Nat) : Int)))) (he : ∀ s : Nat, body ((s : Int), (L.length : Int)) = some (.inr (out s))) :
  ∀ (r p : List α) (k m : Nat), L = p ++ (mapAcc F k r).2 → 0 < k → k + dl w r ≤ B → dl w r ≤ C → r.length < m → loopN body m ((k : Int), (p.length : Int)) = some (out (mapAcc F k r).1)
 | [], p, k, m, hl, hk, hB, hC, hm => by
  obtain ⟨m, rfl⟩ : ∃ q, m = q + 1 := ⟨m - 1, by simp at hm; omega⟩
  have e : p.length = L.length := by rw [hl]; simp [mapAcc]
  simp only [loopN, mapAcc]
  rw [e, he k]
 | a :: r, p, k, m, hl, hk, hB, hC, hm => by
  obtain ⟨m, rfl⟩ : ∃ q, m = q + 1 := ⟨m - 1, by simp at hm; omega⟩
  simp only [mapAcc] at hl ⊢
  have ha : L[p.length]? = some (F k a).2 := by rw [hl]; simp
  simp only [dl] at hB hC
  have h1 := hF a k
  have h2 := hF1 a k
  simp only [loopN, hs k p.length a ha hk (by omega) (by omega)]
  have := loop_heldW F w hF hF1 hs he r (p ++ [(F k a).2]) (F k a).1 m (by rw [hl, List.append_assoc]; rfl) (by omega) (by omega) (by omega) (by simp at hm; omega)
  rw [List.length_append, List.length_singleton] at this
  exact this
theorem loop_mark {α : Type} {body : List α × Int × Int → Option ((List α × Int × Int) ⊕ (List α × Int × Int × Bool))} (F : Nat → α → Nat × α) (w : α → Nat) {B C : Nat} (hF : ∀ a k, (F k a).1 ≤ k + w a) {len : Nat}
  (hs : ∀ (L : List α) (s i : Nat) a, L.length = len → L[i]? = some a → 0 < s → s + w a < B → w a < C → body (L, (s : Int), (i : Int)) = some (.inl (L.set i (F s a).2, ((F s a).1 : Int), ((i + 1 : Nat) : Int)))) (he : ∀ (L : List α) (s : Nat), L.length = len → body (L, (s : Int), (len : Int)) = some (.inr (L, (s : Int), (len : Int), false)))
  (hF1 : ∀ a k, k ≤ (F k a).1) (r p : List α) (k m : Nat) (h1 : (p ++ r).length = len) (h2 : 0 < k) (h3 : k + dl w r ≤ B) (h4 : dl w r ≤ C) (h5 : r.length < m) : loopN body m (p ++ r, (k : Int), (p.length : Int)) = some (p ++ (mapAcc F k r).2, ((mapAcc F k r).1 : Int), (len : Int), false) :=
 loop_markW F w (fun a k => by have := hF a k; omega) hs he hF1 r p k m h1 h2 h3 h4 h5
theorem loop_held {α ρ : Type} {body : Int × Int → Option ((Int × Int) ⊕ ρ)} (F : Nat → α → Nat × α) (w : α → Nat) {B C : Nat} (hF : ∀ a k, (F k a).1 ≤ k + w a) (hF1 : ∀ a k, k ≤ (F k a).1) {L : List α} {out : Nat → ρ}
  (hs : ∀ (s i : Nat) a, L[i]? = some (F s a).2 → 0 < s → s + w a < B → w a < C → body ((s : Int), (i : Int)) = some (.inl (((F s a).1 : Int), ((i + 1 : Nat) : Int)))) (he : ∀ s : Nat, body ((s : Int), (L.length : Int)) = some (.inr (out s)))
  (r p : List α) (k m : Nat) (h1 : L = p ++ (mapAcc F k r).2) (h2 : 0 < k) (h3 : k + dl w r ≤ B) (h4 : dl w r ≤ C) (h5 : r.length < m) : loopN body m ((k : Int), (p.length : Int)) = some (out (mapAcc F k r).1) :=
 loop_heldW F w (fun a k => by have := hF a k; omega) hF1 hs he r p k m h1 h2 h3 h4 h5
theorem ix_set {α : Type} {L : List α} {i : Nat} {a : α} (h : i < L.length) : ix (L.set i a) (i : Int) = some a := by
 rw [ix_nat, List.getElem?_set_self h]

/-- The number's figures. -/
def figs : Nat → Nat → List UInt8 → List UInt8
 | 0, _, acc => acc
 | m + 1, k, acc => bif decide (k = 0) then acc else figs m (k / 10) (UInt8.ofNat (48 + k % 10) :: acc)
theorem figs_len : ∀ (m k : Nat) (acc : List UInt8), (figs m k acc).length ≤ m + acc.length
 | 0, k, acc => by simp [figs]
 | m + 1, k, acc => by
  unfold figs
  cases decide (k = 0) with
  | true => simp only [cond_true]; omega
  | false =>
   simp only [cond_false]
   have := figs_len m (k / 10) (UInt8.ofNat (48 + k % 10) :: acc)
   simp only [List.length_cons] at this
   omega
theorem fig_ok (k : Nat) : toStr [IntKind.wrap .u8 (IntKind.wrap .i64 (48 + Int.tmod (k : Int) 10))] = some [UInt8.ofNat (48 + k % 10)] := by
 have e : Int.tmod (k : Int) 10 = ((k % 10 : Nat) : Int) := rfl
 have h : k % 10 < 10 := Nat.mod_lt _ (by omega)
 rw [e, wrap_i64 (by omega) (by omega)]
 have e2 : IntKind.wrap .u8 (48 + ((k % 10 : Nat) : Int)) = 48 + ((k % 10 : Nat) : Int) := by
  generalize k % 10 = j at h
  have : j = 0 ∨ j = 1 ∨ j = 2 ∨ j = 3 ∨ j = 4 ∨ j = 5 ∨ j = 6 ∨ j = 7 ∨ j = 8 ∨ j = 9 := by omega
  rcases this with h | h | h | h | h | h | h | h | h | h <;> (subst h; rfl)
 rw [e2]
 simp only [toStr]
 rw [if_pos ⟨by omega, by omega⟩]
 have e3 : (48 + ((k % 10 : Nat) : Int)).toNat = 48 + k % 10 := by omega
 rw [e3]; rfl
theorem markText_loop (n : Nat) : ∀ (d k : Nat) (acc : List UInt8) (m : Nat), k < 10 ^ d → acc.length + d < 100 → k < 4611686018427387904 → d < m → loopN (p_laws_markText_b1 n) m ((k : Int), acc) = some ((0 : Int), figs d k acc, false)
 | 0, k, acc, m, hk, hl, hb, hm => by
  obtain ⟨m, rfl⟩ : ∃ q, m = q + 1 := ⟨m - 1, by omega⟩
  have : k = 0 := by simpa using hk
  subst this
  rfl
 | d + 1, k, acc, m, hk, hl, hb, hm => by
  obtain ⟨m, rfl⟩ : ∃ q, m = q + 1 := ⟨m - 1, by omega⟩
  by_cases e : k = 0
  ·subst e
   rfl
  ·have e1 : Int.tdiv (k : Int) 10 = ((k / 10 : Nat) : Int) := rfl
   have e2 : IntKind.wrap .i64 ((k / 10 : Nat) : Int) = ((k / 10 : Nat) : Int) := wrap_i64 (by omega) (by omega)
   have e3 : decide (([UInt8.ofNat (48 + k % 10)] : List UInt8).length + acc.length ≤ 9223372036854775807) = true := decide_eq_true (by simp only [List.length_singleton]; omega)
   simp only [loopN, p_laws_markText_b1, decide_eq_true (show (0 : Int) < (k : Int) by omega), cond_true, fig_ok, Option.bind_some, e3, ck, e1, e2]
   have := markText_loop n d (k / 10) (UInt8.ofNat (48 + k % 10) :: acc) m (by rw [Nat.pow_succ] at hk; omega) (by simp only [List.length_cons]; omega) (by omega) (by omega)
   rw [List.singleton_append, this]
   unfold figs
   rw [decide_eq_false e, cond_false]
   cases d <;> rfl
def mtxt (k : Nat) : List UInt8 := 109 :: figs 20 k []
theorem markText_ok (n k : Nat) (hn : 20 < n) (hk : 0 < k) (h : k < 1099511627776) : p_laws_markText n (k : Int) = some (mtxt k) := by
 unfold p_laws_markText
 rw [decide_eq_false (show ¬ (k : Int) ≤ 0 by omega), cond_false, markText_loop n 20 k [] n (by omega) (by simp) (by omega) hn]
 have := figs_len 20 k []
 have e3 : decide (([109] : List UInt8).length + (figs 20 k []).length ≤ 9223372036854775807) = true := decide_eq_true (by simp only [List.length_singleton]; simp only [List.length_nil] at this; omega)
 simp only [Option.bind_some, e3, ck, cond_true]
 rfl
theorem wrap_nat {k : Nat} (h : k < 4611686018427387904) : IntKind.wrap .i64 ((k : Int) + 1) = ((k + 1 : Nat) : Int) := wrap_succ h
end Go.Own.Q
