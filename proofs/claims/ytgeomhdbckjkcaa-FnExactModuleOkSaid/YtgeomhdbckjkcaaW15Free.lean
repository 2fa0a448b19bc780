/- Names that are free in an expression; functions by their names; calls; in plain Lean. No conditions. -/
import Derived.Test.YtgeomhdbckjkcaaW15ExprOk4
set_option linter.unusedVariables false
set_option linter.unusedSimpArgs false
set_option linter.unnecessarySimpa false
namespace Go.Own.Q
open Go Go.Proofs

/-- A loop with an invariant. -/
theorem loop_inv {σ τ ρ : Type} {body : σ → Option (σ ⊕ ρ)} {len : Nat} (I : Nat → τ → Prop) (enc : τ → Nat → σ) (fin : τ → ρ) (hs : ∀ i t, i < len → I i t → ∃ t', body (enc t i) = some (.inl (enc t' (i + 1))) ∧ I (i + 1) t') (he : ∀ t, I len t → body (enc t len) = some (.inr (fin t))) {n : Nat} (hn : len < n) {t0 : τ} (h0 : I 0 t0) :
    ∃ t, loopN body n (enc t0 0) = some (fin t) ∧ I len t := by
  have key : ∀ k i t n, i + k = len → k < n → I i t → ∃ t', loopN body n (enc t i) = some (fin t') ∧ I len t' := by
    intro k
    induction k with
    | zero =>
      intro i t n hi hn h
      obtain ⟨m, rfl⟩ : ∃ m, n = m + 1 := ⟨n - 1, by omega⟩
      obtain rfl : i = len := by omega
      simp only [loopN, he t h]
      exact ⟨t, rfl, h⟩
    | succ k ih =>
      intro i t n hi hn h
      obtain ⟨m, rfl⟩ : ∃ m, n = m + 1 := ⟨n - 1, by omega⟩
      obtain ⟨t', h1, h2⟩ := hs i t (by omega) h
      simp only [loopN, h1]
      exact ih (i + 1) t' m (by omega) (by omega) h2
  exact key len 0 t0 n (by omega) hn h0

/-! names put behind others, each once -/
def addO : List (List UInt8) → List (List UInt8) → List (List UInt8)
  | l, [] => l
  | l, s :: r => addO (bif decide (s ∈ l) then l else l ++ [s]) r
theorem addO_mem (s : List UInt8) : ∀ (r l : List (List UInt8)), s ∈ addO l r ↔ s ∈ l ∨ s ∈ r
  | [], l => by simp [addO]
  | t :: r, l => by
    unfold addO
    rw [addO_mem s r]
    by_cases h : t ∈ l
    · rw [decide_eq_true h, cond_true, List.mem_cons]
      constructor
      · rintro (h1 | h1)
        · exact .inl h1
        · exact .inr (.inr h1)
      · rintro (h1 | rfl | h1)
        · exact .inl h1
        · exact .inl h
        · exact .inr h1
    · rw [decide_eq_false h, cond_false, List.mem_append, List.mem_singleton, List.mem_cons, or_assoc]
theorem addO_len : ∀ (r l : List (List UInt8)), (addO l r).length ≤ l.length + r.length
  | [], l => by simp [addO]
  | t :: r, l => by
    unfold addO
    have := addO_len r (bif decide (t ∈ l) then l else l ++ [t])
    cases h : decide (t ∈ l) with
    | true => rw [h] at this; simp only [cond_true] at this ⊢; simp only [List.length_cons]; omega
    | false => rw [h] at this; simp only [cond_false, List.length_append, List.length_singleton] at this ⊢; simp only [List.length_cons]; omega
theorem addO_app : ∀ (a b l : List (List UInt8)), addO l (a ++ b) = addO (addO l a) b
  | [], b, l => rfl
  | s :: a, b, l => by simp only [List.cons_append, addO]; exact addO_app a b _
theorem addOnce_ok (n : Nat) (l m : List (List UInt8)) (h : l.length + m.length < n) (hn : n ≤ 1099511627776) : p_impl_addOnce n l m = some (addO l m) := by
  unfold p_impl_addOnce
  have hl := loop_for (body := p_impl_addOnce_b1 n m) (fun i => (addO l (m.take i), (i : Int))) (len := m.length) (r := (addO l m, (m.length : Int), false)) (fun i hi => by
    have ha : m[i]? = some m[i] := List.getElem?_eq_getElem hi
    generalize m[i] = a at ha
    have hb := addO_len (m.take i) l
    rw [List.length_take] at hb
    have e : addO l (m.take (i + 1)) = bif decide (a ∈ addO l (m.take i)) then addO l (m.take i) else addO l (m.take i) ++ [a] := by
      rw [← take_succ' ha, addO_app]; rfl
    simp only [p_impl_addOnce_b1, lt_int ha, cond_true, ix_nat, ha, Option.bind_some, contains_ok n (addO l (m.take i)) a (by omega) (by omega), e, wrap_succ (show i < 4611686018427387904 by omega)]
    cases decide (a ∈ addO l (m.take i)) with
    | true => rfl
    | false =>
      have hap : app2 16 (addO l (m.take i)) [a] = some (addO l (m.take i) ++ [a]) := app2_of (by simp only [List.length_singleton]; omega) (by simp only [List.length_singleton, maxLen]; omega)
      rw [hap]; rfl) (by simp only [p_impl_addOnce_b1, not_lt_int, cond_false, List.take_length]) (n := n) (by omega)
  refine (congrArg (fun q => Option.bind q _) hl).trans ?_
  rfl

theorem impl_VarsOf_ok : ∀ (n : Nat), n ≤ 1099511627776 → ∀ (a : S_impl_Expr), wExpr a < n → p_impl_VarsOf n a.f0 a.f1 a.f2 a.f3 a.f4 = some (vars a)
  | 0, _, a, h => by omega
  | n + 1, hn, a, h => by
    have ih := impl_VarsOf_ok n (by omega)
    rw [p_impl_VarsOf_succ, vars_e]
    unfold s_impl_VarsOf
    rw [wExpr_e, wExprs_dl, wClauses_dl] at h
    have h2 := dl_len wExpr a.f3
    cases decide (a.f0 = 3) with
    | true => generalize decide (a.f2 = [95]) = z; cases z <;> rfl
    | false =>
      simp only [cond_false, Option.bind_some]
      generalize a.f3 = l at h h2
      have hl := loop_for (body := p_impl_VarsOf_b1 n (p_impl_VarsOf n) l) (fun i => (varss (l.take i), (i : Int))) (len := l.length) (r := (varss l, (l.length : Int), false)) (fun i hi => by
        have ha : l[i]? = some l[i] := List.getElem?_eq_getElem hi
        generalize l[i] = b at ha
        have hd := dl_mem wExpr (List.mem_of_getElem? ha)
        have e : varss (l.take (i + 1)) = varss (l.take i) ++ vars b := by rw [← take_succ' ha, varss_app, varss_one]
        have hb := varss_len (l.take (i + 1))
        have hb2 : wExprs (l.take (i + 1)) ≤ dl wExpr l := by
          rw [wExprs_dl]; exact dl_take wExpr l (i + 1)
        rw [e, List.length_append] at hb
        have hap : app2 16 (varss (l.take i)) (vars b) = some (varss (l.take (i + 1))) := by
          rw [e]
          exact app2_of (by omega) (by simp only [maxLen]; omega)
        simp only [p_impl_VarsOf_b1, lt_int ha, cond_true, ix_nat, ha, Option.bind_some, ih b (by omega), hap, wrap_succ (show i < 4611686018427387904 by omega)]) (by simp only [p_impl_VarsOf_b1, not_lt_int, cond_false, List.take_length]) (n := n) (by omega)
      refine (congrArg (fun q => Option.bind q _) hl).trans ?_
      rfl

/-! the names that are free, at each place where they are -/
mutual
def fl : S_impl_Expr → List (List UInt8)
  | .mk k _ s l c => bif decide (k = 3) then [s] else fls l ++ flc c
def fls : List S_impl_Expr → List (List UInt8)
  | [] => []
  | x :: r => fl x ++ fls r
def flc : List S_impl_Clause → List (List UInt8)
  | [] => []
  | x :: r => flk x ++ flc r
def flk : S_impl_Clause → List (List UInt8)
  | .two p x => (fl x).filter fun s => !decide (s ∈ vars p)
end
theorem fl_e (a : S_impl_Expr) : fl a = bif decide (a.f0 = 3) then [a.f2] else fls a.f3 ++ flc a.f4 := by cases a; simp only [fl]; rfl
theorem flk_e (a : S_impl_Clause) : flk a = (fl a.x).filter fun s => !decide (s ∈ vars a.p) := by cases a; simp only [flk]; rfl
theorem fls_app : ∀ (a b : List S_impl_Expr), fls (a ++ b) = fls a ++ fls b
  | [], b => rfl
  | x :: r, b => by simp only [List.cons_append, fls, fls_app r b, List.append_assoc]
theorem flc_app : ∀ (a b : List S_impl_Clause), flc (a ++ b) = flc a ++ flc b
  | [], b => rfl
  | x :: r, b => by simp only [List.cons_append, flc, flc_app r b, List.append_assoc]
theorem fls_one (a : S_impl_Expr) : fls [a] = fl a := by simp only [fls, List.append_nil]
theorem flc_one (a : S_impl_Clause) : flc [a] = flk a := by simp only [flc, List.append_nil]
theorem dl_take1 {α : Type} (w : α → Nat) {l : List α} {i : Nat} {a : α} (h : l[i]? = some a) : dl w (l.take (i + 1)) = dl w (l.take i) + 1 + w a := by
  rw [← take_succ' h]
  generalize l.take i = p
  induction p with
  | nil => simp only [List.nil_append, dl]; omega
  | cons b r ih => simp only [List.cons_append, dl, ih]; omega
def FO (a : S_impl_Expr) (L : List (List UInt8)) : Prop := (∀ s, s ∈ L ↔ s ∈ fl a) ∧ L.length ≤ wExpr a
theorem impl_FreeOf_ok : ∀ (n : Nat), n ≤ 1099511627776 → ∀ (a : S_impl_Expr), wExpr a < n → ∃ L, p_impl_FreeOf n a.f0 a.f1 a.f2 a.f3 a.f4 = some L ∧ FO a L
  | 0, _, a, h => by omega
  | n + 1, hn, a, h => by
    have ih := impl_FreeOf_ok n (by omega)
    rw [p_impl_FreeOf_succ]
    unfold s_impl_FreeOf FO
    rw [fl_e]
    have hw := wExpr_e a
    rw [wExprs_dl, wClauses_dl] at hw
    generalize wExpr a = q at h hw
    cases decide (a.f0 = 3) with
    | true => exact ⟨_, rfl, fun s => Iff.rfl, by simp; omega⟩
    | false =>
      simp only [cond_false]
      generalize a.f3 = l at hw
      generalize a.f4 = c at hw
      have hl := dl_len wExpr l
      have hl2 := dl_len wClause c
      obtain ⟨L, l1, l2, l3⟩ := loop_inv (body := p_impl_FreeOf_b1 n (p_impl_FreeOf n) l) (len := l.length) (fun i L => (∀ s, s ∈ L ↔ s ∈ fls (l.take i)) ∧ L.length + 1 ≤ dl wExpr (l.take i)) (fun L i => (L, (i : Int))) (fun L => (L, (l.length : Int), false)) (fun i L hi hL => by
        have ha : l[i]? = some l[i] := List.getElem?_eq_getElem hi
        generalize l[i] = b at ha
        have hd := dl_mem wExpr (List.mem_of_getElem? ha)
        have ht := dl_take1 wExpr ha
        have ht2 := dl_take wExpr l (i + 1)
        obtain ⟨M, m1, m2, m3⟩ := ih b (by omega)
        refine ⟨addO L M, ?_, fun s => ?_, ?_⟩
        · simp only [p_impl_FreeOf_b1, lt_int ha, cond_true, ix_nat, ha, Option.bind_some, m1, addOnce_ok n L M (by omega) (by omega), wrap_succ (show i < 4611686018427387904 by omega)]
        · rw [addO_mem, hL.1, m2, ← take_succ' ha, fls_app, fls_one, List.mem_append]
        · have := addO_len M L; omega) (fun L _ => by simp only [p_impl_FreeOf_b1, not_lt_int, cond_false]) (n := n) (by omega) (t0 := []) ⟨fun s => by simp [fls], by simp [dl]⟩
      have l1 : loopN (p_impl_FreeOf_b1 n (p_impl_FreeOf n) l) n (([] : List (List UInt8)), (0 : Int)) = some (L, (l.length : Int), false) := l1
      rw [l1]
      rw [List.take_length] at l2 l3
      simp only [Option.bind_some]
      obtain ⟨K, k1, k2, k3⟩ := loop_inv (body := p_impl_FreeOf_b2 n (p_impl_FreeOf n) c) (len := c.length) (fun i K => (∀ s, s ∈ K ↔ s ∈ fls l ++ flc (c.take i)) ∧ K.length + 2 ≤ dl wExpr l + dl wClause (c.take i)) (fun L i => (L, (i : Int))) (fun L => (L, (c.length : Int), false)) (fun i K hi hK => by
        have ha : c[i]? = some c[i] := List.getElem?_eq_getElem hi
        generalize c[i] = b at ha
        have hd := dl_mem wClause (List.mem_of_getElem? ha)
        have hb := wClause_e b
        have ht := dl_take1 wClause ha
        have ht2 := dl_take wClause c (i + 1)
        obtain ⟨M, m1, m2, m3⟩ := ih b.x (by omega)
        have m1 : p_impl_FreeOf n b.f5 b.f6 b.f7 b.f8 b.f9 = some M := m1
        have v1 : p_impl_VarsOf n b.f0 b.f1 b.f2 b.f3 b.f4 = some (vars b.p) := impl_VarsOf_ok n (by omega) b.p (by omega)
        have hvl := vars_len b.p
        obtain ⟨N, n1, n2, n3⟩ := loop_inv (body := p_impl_FreeOf_b3 n (vars b.p) M) (len := M.length) (fun j N => (∀ s, s ∈ N ↔ s ∈ K ∨ (s ∈ M.take j ∧ s ∉ vars b.p)) ∧ N.length ≤ K.length + j) (fun L i => (L, (i : Int))) (fun L => (L, (M.length : Int), false)) (fun j N hj hN => by
          have hm : M[j]? = some M[j] := List.getElem?_eq_getElem hj
          generalize M[j] = x at hm
          simp only [p_impl_FreeOf_b3, lt_int hm, cond_true, ix_nat, hm, Option.bind_some, contains_ok n (vars b.p) x (by omega) (by omega), wrap_succ (show j < 4611686018427387904 by omega)]
          by_cases hx : x ∈ vars b.p
          · rw [decide_eq_true hx]
            refine ⟨N, rfl, fun s => ?_, by omega⟩
            rw [hN.1, ← take_succ' hm, List.mem_append, List.mem_singleton]
            constructor
            · rintro (h1 | ⟨h1, h2⟩)
              · exact .inl h1
              · exact .inr ⟨.inl h1, h2⟩
            · rintro (h1 | ⟨h1 | rfl, h2⟩)
              · exact .inl h1
              · exact .inr ⟨h1, h2⟩
              · exact absurd hx h2
          · rw [decide_eq_false hx]
            refine ⟨addO N [x], ?_, fun s => ?_, ?_⟩
            · rw [Bool.not_false, cond_true, addOnce_ok n N [x] (by simp only [List.length_singleton]; omega) (by omega)]; rfl
            · rw [addO_mem, hN.1, ← take_succ' hm, List.mem_append, List.mem_singleton]
              constructor
              · rintro ((h1 | ⟨h1, h2⟩) | rfl)
                · exact .inl h1
                · exact .inr ⟨.inl h1, h2⟩
                · exact .inr ⟨.inr rfl, hx⟩
              · rintro (h1 | ⟨h1 | rfl, h2⟩)
                · exact .inl (.inl h1)
                · exact .inl (.inr ⟨h1, h2⟩)
                · exact .inr rfl
            · have := addO_len [x] N
              simp only [List.length_singleton] at this
              omega) (fun N _ => by simp only [p_impl_FreeOf_b3, not_lt_int, cond_false]) (n := n) (by omega) (t0 := K) ⟨fun s => by simp, by omega⟩
        have n1 : loopN (p_impl_FreeOf_b3 n (vars b.p) M) n (K, (0 : Int)) = some (N, (M.length : Int), false) := n1
        rw [List.take_length] at n2
        refine ⟨N, ?_, fun s => ?_, ?_⟩
        · simp only [p_impl_FreeOf_b2, lt_int ha, cond_true, ix_nat, ha, Option.bind_some, v1, m1, n1, wrap_succ (show i < 4611686018427387904 by omega)]
        · rw [n2, hK.1, ← take_succ' ha, flc_app, flc_one, flk_e, m2]
          simp only [List.mem_append, List.mem_filter, Bool.not_eq_true', decide_eq_false_iff_not, or_assoc]
        · omega) (fun L _ => by simp only [p_impl_FreeOf_b2, not_lt_int, cond_false]) (n := n) (by omega) (t0 := L) ⟨fun s => by rw [l2]; simp [flc], by simp only [List.take_zero, dl]; omega⟩
      have k1 : loopN (p_impl_FreeOf_b2 n (p_impl_FreeOf n) c) n (L, (0 : Int)) = some (K, (c.length : Int), false) := k1
      rw [k1]
      rw [List.take_length] at k2 k3
      exact ⟨K, rfl, k2, by omega⟩
end Go.Own.Q
