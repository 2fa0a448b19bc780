/- When a module is right: the program's answer and the reference's, in plain Lean. No conditions. -/
import Derived.Test.YtgeomhdbckjkcaaW15Free
set_option linter.unusedVariables false
set_option linter.unusedSimpArgs false
set_option linter.unnecessarySimpa false
namespace Go.Own.Q
open Go Go.Proofs

theorem l4Free_ok : ∀ (n : Nat), n ≤ 1099511627776 → ∀ (a : S_impl_Expr) (out but : List (List UInt8)), wExpr a + out.length + but.length < n → ∃ L, p_spec_l4Free n out but a.f0 a.f1 a.f2 a.f3 a.f4 = some L ∧ (∀ s, s ∈ L ↔ s ∈ out ∨ (s ∈ fl a ∧ s ∉ but)) ∧ L.length ≤ out.length + wExpr a
  | 0, _, a, out, but, h => by omega
  | n + 1, hn, a, out, but, h => by
    have ih := l4Free_ok n (by omega)
    rw [p_spec_l4Free_succ]
    unfold s_spec_l4Free
    rw [fl_e]
    have hw := wExpr_e a
    rw [wExprs_dl, wClauses_dl] at hw
    generalize wExpr a = q at h hw
    cases decide (a.f0 = 3) with
    | true =>
      simp only [cond_true, l4Has_ok n but a.f2 (by omega) (by omega), l4Has_ok n out a.f2 (by omega) (by omega), Option.bind_some]
      have hap : app2 16 out [a.f2] = some (out ++ [a.f2]) := app2_of (by simp only [List.length_singleton]; omega) (by simp only [List.length_singleton, maxLen]; omega)
      rw [hap]
      by_cases h1 : a.f2 ∈ but
      · rw [decide_eq_true h1]
        refine ⟨out, rfl, fun s => ⟨.inl, ?_⟩, by omega⟩
        rintro (h2 | ⟨h2, h3⟩)
        · exact h2
        · simp only [List.mem_singleton] at h2; subst h2; exact absurd h1 h3
      · rw [decide_eq_false h1]
        by_cases h2 : a.f2 ∈ out
        · rw [decide_eq_true h2]
          refine ⟨out, rfl, fun s => ⟨.inl, ?_⟩, by omega⟩
          rintro (h3 | ⟨h3, _⟩)
          · exact h3
          · simp only [List.mem_singleton] at h3; subst h3; exact h2
        · rw [decide_eq_false h2]
          refine ⟨out ++ [a.f2], rfl, fun s => ?_, by rw [List.length_append, List.length_singleton]; omega⟩
          rw [List.mem_append, List.mem_singleton]
          constructor
          · rintro (h3 | rfl)
            · exact .inl h3
            · exact .inr ⟨rfl, h1⟩
          · rintro (h3 | ⟨h3, _⟩)
            · exact .inl h3
            · exact .inr h3
    | false =>
      simp only [cond_false]
      generalize a.f3 = l at hw
      generalize a.f4 = c at hw
      have hl := dl_len wExpr l
      have hl2 := dl_len wClause c
      obtain ⟨L, l1, l2, l3⟩ := loop_inv (body := p_spec_l4Free_b1 n (p_spec_l4Free n) but l) (len := l.length) (fun i L => (∀ s, s ∈ L ↔ s ∈ out ∨ (s ∈ fls (l.take i) ∧ s ∉ but)) ∧ L.length + 1 ≤ out.length + dl wExpr (l.take i)) (fun L i => (L, (i : Int))) (fun L => (L, (l.length : Int), false)) (fun i L hi hL => by
        have ha : l[i]? = some l[i] := List.getElem?_eq_getElem hi
        generalize l[i] = b at ha
        have hd := dl_mem wExpr (List.mem_of_getElem? ha)
        have ht := dl_take1 wExpr ha
        have ht2 := dl_take wExpr l (i + 1)
        obtain ⟨M, m1, m2, m3⟩ := ih b L but (by omega)
        refine ⟨M, ?_, fun s => ?_, ?_⟩
        · simp only [p_spec_l4Free_b1, lt_int ha, cond_true, ix_nat, ha, Option.bind_some, m1, wrap_succ (show i < 4611686018427387904 by omega)]
        · rw [m2, hL.1, ← take_succ' ha, fls_app, fls_one, List.mem_append, or_assoc, ← or_and_right]
        · omega) (fun L _ => by simp only [p_spec_l4Free_b1, not_lt_int, cond_false]) (n := n) (by omega) (t0 := out) ⟨fun s => by simp [fls], by simp [dl]⟩
      have l1 : loopN (p_spec_l4Free_b1 n (p_spec_l4Free n) but l) n (out, (0 : Int)) = some (L, (l.length : Int), false) := l1
      rw [l1]
      rw [List.take_length] at l2 l3
      simp only [Option.bind_some]
      obtain ⟨K, k1, k2, k3⟩ := loop_inv (body := p_spec_l4Free_b2 n (p_spec_l4Free n) but c) (len := c.length) (fun i K => (∀ s, s ∈ K ↔ s ∈ out ∨ (s ∈ fls l ++ flc (c.take i) ∧ s ∉ but)) ∧ K.length + 2 ≤ out.length + dl wExpr l + dl wClause (c.take i)) (fun L i => (L, (i : Int))) (fun L => (L, (c.length : Int), false)) (fun i K hi hK => by
        have ha : c[i]? = some c[i] := List.getElem?_eq_getElem hi
        generalize c[i] = b at ha
        have hd := dl_mem wClause (List.mem_of_getElem? ha)
        have hb := wClause_e b
        have ht := dl_take1 wClause ha
        have ht2 := dl_take wClause c (i + 1)
        have v1 : p_spec_VarsOf n b.f0 b.f1 b.f2 b.f3 b.f4 = some (vars b.p) := spec_VarsOf_ok n (by omega) b.p (by omega)
        have hvl := vars_len b.p
        obtain ⟨M, m1, m2, m3⟩ := ih b.x K (but ++ vars b.p) (by rw [List.length_append]; omega)
        have m1 : p_spec_l4Free n K (but ++ vars b.p) b.f5 b.f6 b.f7 b.f8 b.f9 = some M := m1
        have a1 : app2 16 ([] : List (List UInt8)) but = some but := app2_of (by simp only [List.length_nil]; omega) (by simp only [List.length_nil, maxLen]; omega)
        have a2 : app2 16 but (vars b.p) = some (but ++ vars b.p) := app2_of (by omega) (by simp only [maxLen]; omega)
        refine ⟨M, ?_, fun s => ?_, ?_⟩
        · simp only [p_spec_l4Free_b2, lt_int ha, cond_true, ix_nat, ha, Option.bind_some, a1, v1, a2, m1, wrap_succ (show i < 4611686018427387904 by omega)]
        · rw [m2, hK.1, ← take_succ' ha, flc_app, flc_one, flk_e]
          simp only [List.mem_append, List.mem_filter, Bool.not_eq_true', decide_eq_false_iff_not, not_or]
          constructor
          · rintro ((h1 | ⟨h1, h2⟩) | ⟨h1, h2, h3⟩)
            · exact .inl h1
            · exact .inr ⟨h1.elim .inl (fun h => .inr (.inl h)), h2⟩
            · exact .inr ⟨.inr (.inr ⟨h1, h3⟩), h2⟩
          · rintro (h1 | ⟨h1 | h1 | ⟨h1, h3⟩, h2⟩)
            · exact .inl (.inl h1)
            · exact .inl (.inr ⟨.inl h1, h2⟩)
            · exact .inl (.inr ⟨.inr h1, h2⟩)
            · exact .inr ⟨h1, h2, h3⟩
        · omega) (fun L _ => by simp only [p_spec_l4Free_b2, not_lt_int, cond_false]) (n := n) (by omega) (t0 := L) ⟨fun s => by rw [l2]; simp [flc], by simp only [List.take_zero, dl]; omega⟩
      have k1 : loopN (p_spec_l4Free_b2 n (p_spec_l4Free n) but c) n (L, (0 : Int)) = some (K, (c.length : Int), false) := k1
      rw [k1]
      rw [List.take_length] at k2 k3
      exact ⟨K, rfl, k2, by omega⟩
theorem spec_FreeOf_ok (n : Nat) (hn : n ≤ 1099511627776) (a : S_impl_Expr) (h : wExpr a < n) : ∃ L, p_spec_FreeOf n a.f0 a.f1 a.f2 a.f3 a.f4 = some L ∧ FO a L := by
  unfold p_spec_FreeOf
  obtain ⟨L, l1, l2, l3⟩ := l4Free_ok n hn a [] [] (by simpa using h)
  rw [l1]
  exact ⟨L, rfl, fun s => by rw [l2]; simp, by simpa using l3⟩

/-! functions by their names -/
def fx (f : S_impl_Fun) : S_impl_Expr := .mk f.f2 f.f3 f.f4 f.f5 f.f6
def funAt (m : List S_impl_Fun) (s : List UInt8) : Int := fidx (fun f => decide (f.f0 = s)) 0 m
theorem spec_FunAt_ok (n : Nat) (m : List S_impl_Fun) (s : List UInt8) (h : m.length < n) (hn : n < 4611686018427387904) : p_spec_FunAt n m s = some (funAt m s) := by
  unfold p_spec_FunAt funAt
  have e := loop_find (body := p_spec_FunAt_b1 n m s) m (fun f => decide (f.f0 = s)) (fun i => (i : Int)) (fun i => Sum.inl (i : Int)) (Sum.inr ((m.length : Int), false)) (fun i a ha => by
    have hi := lt_len ha
    simp only [p_spec_FunAt_b1, lt_int ha, cond_true, ix_nat, ha, Option.bind_some, wrap_succ (show i < 4611686018427387904 by omega)]
    cases decide (a.f0 = s) <;> rfl) (by simp only [p_spec_FunAt_b1, not_lt_int, cond_false]) h
  refine (congrArg (fun q => Option.bind q _) e).trans ?_
  rcases fidx_get (fun f : S_impl_Fun => decide (f.f0 = s)) m 0 with ⟨h, _⟩ | ⟨k, a, h, _⟩
  · rw [h]; rfl
  · rw [h, decide_eq_false (by omega)]
    simp only [Option.bind_some, cond_false, Int.toNat_natCast]
theorem impl_FunAt_ok (n : Nat) (m : List S_impl_Fun) (s : List UInt8) (h : m.length < n) (hn : n < 4611686018427387904) : p_impl_FunAt n m s = some (funAt m s) := by
  unfold p_impl_FunAt p_slices_IndexFunc_4a3f funAt
  have e := loop_find (body := p_slices_IndexFunc_4a3f_b1 n m) m (fun f => decide (f.f0 = s)) (fun i => ((i : Int), s)) (fun i => Sum.inl ((i : Int), s)) (Sum.inr ((m.length : Int), false, s)) (fun i a ha => by
    have hi := lt_len ha
    simp only [p_slices_IndexFunc_4a3f_b1, p_impl_FunAt_1, lt_int ha, cond_true, ix_nat, ha, Option.bind_some, wrap_succ (show i < 4611686018427387904 by omega)]
    cases decide (a.f0 = s) <;> rfl) (by simp only [p_slices_IndexFunc_4a3f_b1, not_lt_int, cond_false]) h
  have e : loopN (p_slices_IndexFunc_4a3f_b1 n m) n ((0 : Int), s) = _ := e
  rw [e]
  rcases fidx_get (fun f : S_impl_Fun => decide (f.f0 = s)) m 0 with ⟨h, _⟩ | ⟨k, a, h, _⟩
  · rw [h]; rfl
  · rw [h, decide_eq_false (by omega)]
    simp only [Option.bind_some, cond_false, Int.toNat_natCast]
/-- Is a call of a function that is there, with as many arguments? -/
def callOk (m : List S_impl_Fun) (s : List UInt8) (ne : Nat) : Bool := match m[(funAt m s).toNat]? with
  | some f => !decide (funAt m s < 0) && decide ((f.f1.length : Int) = (ne : Int))
  | none => false
theorem funAt_get (m : List S_impl_Fun) (s : List UInt8) : funAt m s = -1 ∨ ∃ (k : Nat) (f : S_impl_Fun), funAt m s = (k : Int) ∧ m[k]? = some f := by
  unfold funAt
  rcases fidx_get (fun f : S_impl_Fun => decide (f.f0 = s)) m 0 with ⟨h, _⟩ | ⟨k, a, h, h1, _⟩
  · exact .inl h
  · exact .inr ⟨k, a, by rw [h]; simp, h1⟩
mutual
def calls (m : List S_impl_Fun) : S_impl_Expr → Bool
  | .mk k _ s l c => (!decide (k = 8) || callOk m s l.length) && (callss m l && callsc m c)
def callss (m : List S_impl_Fun) : List S_impl_Expr → Bool
  | [] => true
  | x :: r => calls m x && callss m r
def callsc (m : List S_impl_Fun) : List S_impl_Clause → Bool
  | [] => true
  | x :: r => callsk m x && callsc m r
def callsk (m : List S_impl_Fun) : S_impl_Clause → Bool
  | .two _ x => calls m x
end
theorem calls_e (m : List S_impl_Fun) (a : S_impl_Expr) : calls m a = ((!decide (a.f0 = 8) || callOk m a.f2 a.f3.length) && (callss m a.f3 && callsc m a.f4)) := by cases a; simp only [calls]; rfl
theorem callsk_e (m : List S_impl_Fun) (a : S_impl_Clause) : callsk m a = calls m a.x := by cases a; simp only [callsk]; rfl
theorem callss_all (m : List S_impl_Fun) : ∀ l, callss m l = l.all (calls m)
  | [] => rfl
  | x :: r => by simp only [callss, List.all_cons, callss_all m r]
theorem callsc_all (m : List S_impl_Fun) : ∀ l, callsc m l = l.all (callsk m)
  | [] => rfl
  | x :: r => by simp only [callsc, List.all_cons, callsc_all m r]
theorem l6Calls_ok : ∀ (n : Nat), n ≤ 1099511627776 → ∀ (m : List S_impl_Fun) (a : S_impl_Expr), wExpr a + m.length < n → p_spec_l6Calls n m a.f0 a.f1 a.f2 a.f3 a.f4 = some (calls m a)
  | 0, _, m, a, h => by omega
  | n + 1, hn, m, a, h => by
    have ih := l6Calls_ok n (by omega)
    rw [p_spec_l6Calls_succ, calls_e, callss_all, callsc_all]
    unfold s_spec_l6Calls
    rw [wExpr_e, wExprs_dl, wClauses_dl] at h
    have hl := dl_len wExpr a.f3
    have hl2 := dl_len wClause a.f4
    rw [spec_FunAt_ok n m a.f2 (by omega) (by omega)]
    have hcl : (bif decide (funAt m a.f2 < 0) then some true else (ix m (funAt m a.f2)).bind fun e => some (!decide ((e.f1.length : Int) = (a.f3.length : Int)))) = some (!callOk m a.f2 a.f3.length) := by
      unfold callOk
      rcases funAt_get m a.f2 with e | ⟨k, f, e, e2⟩
      · rw [e]
        cases m[(-1 : Int).toNat]? <;> rfl
      · rw [e, Int.toNat_natCast, e2, ix_nat, e2, decide_eq_false (by omega)]; rfl
    have loop1 : ∀ (l : List S_impl_Expr) (body : Int → Option (Int ⊕ (Bool ⊕ (Int × Bool)))), (∀ (i : Nat) b, l[i]? = some b → body (i : Int) = (p_spec_l6Calls n m b.f0 b.f1 b.f2 b.f3 b.f4).bind fun c => bif !c then some (.inr (.inl false)) else some (.inl ((i + 1 : Nat) : Int))) → (body (l.length : Int) = some (.inr (.inr ((l.length : Int), false)))) → dl wExpr l + m.length < n → loopN body n (0 : Int) = some (if l.all (calls m) then .inr ((l.length : Int), false) else .inl false) := fun l body hs he hw => by
      have := dl_len wExpr l
      refine loop_ok l (calls m) (fun i b hb => ?_) he (by omega)
      have hd := dl_mem wExpr (List.mem_of_getElem? hb)
      rw [hs i b hb, ih m b (by omega)]
      cases calls m b <;> rfl
    have loop2 : ∀ (l : List S_impl_Clause) (body : Int → Option (Int ⊕ (Bool ⊕ (Int × Bool)))), (∀ (i : Nat) b, l[i]? = some b → body (i : Int) = (p_spec_l6Calls n m b.f5 b.f6 b.f7 b.f8 b.f9).bind fun c => bif !c then some (.inr (.inl false)) else some (.inl ((i + 1 : Nat) : Int))) → (body (l.length : Int) = some (.inr (.inr ((l.length : Int), false)))) → dl wClause l + m.length < n → loopN body n (0 : Int) = some (if l.all (callsk m) then .inr ((l.length : Int), false) else .inl false) := fun l body hs he hw => by
      have := dl_len wClause l
      refine loop_ok l (callsk m) (fun i b hb => ?_) he (by omega)
      have hd := dl_mem wClause (List.mem_of_getElem? hb)
      have hb2 := wClause_e b
      have e : p_spec_l6Calls n m b.f5 b.f6 b.f7 b.f8 b.f9 = some (calls m b.x) := ih m b.x (by omega)
      rw [hs i b hb, e, callsk_e]
      cases calls m b.x <;> rfl
    have b1 := loop1 a.f3 (p_spec_l6Calls_b1 n (p_spec_l6Calls n) m a.f3) (fun i b hb => by
      have hi := lt_len hb
      simp only [p_spec_l6Calls_b1, lt_int hb, cond_true, ix_nat, hb, Option.bind_some, wrap_succ (show i < 4611686018427387904 by omega)]) (by simp only [p_spec_l6Calls_b1, not_lt_int, cond_false]) (by omega)
    have b3 := loop1 a.f3 (p_spec_l6Calls_b3 n (p_spec_l6Calls n) m a.f3) (fun i b hb => by
      have hi := lt_len hb
      simp only [p_spec_l6Calls_b3, lt_int hb, cond_true, ix_nat, hb, Option.bind_some, wrap_succ (show i < 4611686018427387904 by omega)]) (by simp only [p_spec_l6Calls_b3, not_lt_int, cond_false]) (by omega)
    have b2 := loop2 a.f4 (p_spec_l6Calls_b2 n (p_spec_l6Calls n) m a.f4) (fun i b hb => by
      have hi := lt_len hb
      simp only [p_spec_l6Calls_b2, lt_int hb, cond_true, ix_nat, hb, Option.bind_some, wrap_succ (show i < 4611686018427387904 by omega)]) (by simp only [p_spec_l6Calls_b2, not_lt_int, cond_false]) (by omega)
    have b4 := loop2 a.f4 (p_spec_l6Calls_b4 n (p_spec_l6Calls n) m a.f4) (fun i b hb => by
      have hi := lt_len hb
      simp only [p_spec_l6Calls_b4, lt_int hb, cond_true, ix_nat, hb, Option.bind_some, wrap_succ (show i < 4611686018427387904 by omega)]) (by simp only [p_spec_l6Calls_b4, not_lt_int, cond_false]) (by omega)
    rw [Option.bind_some, hcl, b1, b2, b3, b4]
    cases decide (a.f0 = 8) <;> cases callOk m a.f2 a.f3.length <;> cases a.f3.all (calls m) <;> cases a.f4.all (callsk m) <;> rfl
theorem funIn1_ok (n : Nat) (m : List S_impl_Fun) (k k2 : Int) (s : List UInt8) (l : List S_impl_Expr) (c : List S_impl_Clause) (ok : Bool) (h : m.length < n) (hn : n < 4611686018427387904) : p_impl_funIn_1 n k k2 s l c m ok = some (m, ok && callOk m s l.length) := by
  unfold p_impl_funIn_1
  rw [impl_FunAt_ok n m s h hn]
  unfold callOk
  rcases funAt_get m s with e | ⟨k, f, e, e2⟩
  · rw [e]
    cases ok <;> cases m[(-1 : Int).toNat]? <;> rfl
  · rw [e, Int.toNat_natCast, e2, Option.bind_some, ix_nat, e2, decide_eq_false (show ¬ (k : Int) < 0 by omega), decide_eq_true (show (0 : Int) ≤ (k : Int) by omega)]
    cases ok <;> rfl
theorem eachCall_ok : ∀ (n : Nat), n ≤ 1099511627776 → ∀ (m : List S_impl_Fun) (a : S_impl_Expr) (ok : Bool), wExpr a + m.length < n → p_impl_eachCall n a.f0 a.f1 a.f2 a.f3 a.f4 m ok = some (m, ok && calls m a)
  | 0, _, m, a, ok, h => by omega
  | n + 1, hn, m, a, ok, h => by
    have ih := eachCall_ok n (by omega)
    rw [p_impl_eachCall_succ, calls_e, callss_all, callsc_all]
    unfold s_impl_eachCall
    rw [wExpr_e, wExprs_dl, wClauses_dl] at h
    have hl := dl_len wExpr a.f3
    have hl2 := dl_len wClause a.f4
    have all_snoc : ∀ {α : Type} (p : α → Bool) (l : List α) (i : Nat) (b : α), l[i]? = some b → (l.take (i + 1)).all p = ((l.take i).all p && p b) := fun p l i b hb => by rw [← take_succ' hb, List.all_append]; simp
    have loop1 : ∀ (l : List S_impl_Expr) (body : Int × List S_impl_Fun × Bool → Option ((Int × List S_impl_Fun × Bool) ⊕ (Int × Bool × List S_impl_Fun × Bool))), (∀ (i : Nat) b t, l[i]? = some b → body ((i : Int), m, t) = (p_impl_eachCall n b.f0 b.f1 b.f2 b.f3 b.f4 m t).bind fun c => some (.inl (((i + 1 : Nat) : Int), c.1, c.2))) → (∀ t, body ((l.length : Int), m, t) = some (.inr ((l.length : Int), false, m, t))) → dl wExpr l + m.length < n → ∀ ok, loopN body n ((0 : Int), m, ok) = some ((l.length : Int), false, m, ok && l.all (calls m)) := fun l body hs he hw ok => by
      have := dl_len wExpr l
      have e := loop_for (body := body) (fun i => ((i : Int), m, ok && (l.take i).all (calls m))) (len := l.length) (r := ((l.length : Int), false, m, ok && l.all (calls m))) (fun i hi => by
        have hb : l[i]? = some l[i] := List.getElem?_eq_getElem hi
        generalize l[i] = b at hb
        have hd := dl_mem wExpr (List.mem_of_getElem? hb)
        rw [hs i b _ hb, ih m b _ (by omega), all_snoc _ l i b hb, Bool.and_assoc]; rfl) (by rw [List.take_length]; exact he _) (n := n) (by omega)
      simpa using e
    have loop2 : ∀ (l : List S_impl_Clause) (body : Int × List S_impl_Fun × Bool → Option ((Int × List S_impl_Fun × Bool) ⊕ (Int × Bool × List S_impl_Fun × Bool))), (∀ (i : Nat) b t, l[i]? = some b → body ((i : Int), m, t) = (p_impl_eachCall n b.f5 b.f6 b.f7 b.f8 b.f9 m t).bind fun c => some (.inl (((i + 1 : Nat) : Int), c.1, c.2))) → (∀ t, body ((l.length : Int), m, t) = some (.inr ((l.length : Int), false, m, t))) → dl wClause l + m.length < n → ∀ ok, loopN body n ((0 : Int), m, ok) = some ((l.length : Int), false, m, ok && l.all (callsk m)) := fun l body hs he hw ok => by
      have := dl_len wClause l
      have e := loop_for (body := body) (fun i => ((i : Int), m, ok && (l.take i).all (callsk m))) (len := l.length) (r := ((l.length : Int), false, m, ok && l.all (callsk m))) (fun i hi => by
        have hb : l[i]? = some l[i] := List.getElem?_eq_getElem hi
        generalize l[i] = b at hb
        have hd := dl_mem wClause (List.mem_of_getElem? hb)
        have hb2 := wClause_e b
        have e : ∀ t, p_impl_eachCall n b.f5 b.f6 b.f7 b.f8 b.f9 m t = some (m, t && calls m b.x) := fun t => ih m b.x t (by omega)
        rw [hs i b _ hb, e, all_snoc _ l i b hb, callsk_e, Bool.and_assoc]; rfl) (by rw [List.take_length]; exact he _) (n := n) (by omega)
      simpa using e
    have b1 := loop1 a.f3 (p_impl_eachCall_b1 n (p_impl_eachCall n) a.f3) (fun i b t hb => by
      have hi := lt_len hb
      simp only [p_impl_eachCall_b1, lt_int hb, cond_true, ix_nat, hb, Option.bind_some, wrap_succ (show i < 4611686018427387904 by omega)]) (fun t => by simp only [p_impl_eachCall_b1, not_lt_int, cond_false]) (by omega)
    have b3 := loop1 a.f3 (p_impl_eachCall_b3 n (p_impl_eachCall n) a.f3) (fun i b t hb => by
      have hi := lt_len hb
      simp only [p_impl_eachCall_b3, lt_int hb, cond_true, ix_nat, hb, Option.bind_some, wrap_succ (show i < 4611686018427387904 by omega)]) (fun t => by simp only [p_impl_eachCall_b3, not_lt_int, cond_false]) (by omega)
    have b2 := loop2 a.f4 (p_impl_eachCall_b2 n (p_impl_eachCall n) a.f4) (fun i b t hb => by
      have hi := lt_len hb
      simp only [p_impl_eachCall_b2, lt_int hb, cond_true, ix_nat, hb, Option.bind_some, wrap_succ (show i < 4611686018427387904 by omega)]) (fun t => by simp only [p_impl_eachCall_b2, not_lt_int, cond_false]) (by omega)
    have b4 := loop2 a.f4 (p_impl_eachCall_b4 n (p_impl_eachCall n) a.f4) (fun i b t hb => by
      have hi := lt_len hb
      simp only [p_impl_eachCall_b4, lt_int hb, cond_true, ix_nat, hb, Option.bind_some, wrap_succ (show i < 4611686018427387904 by omega)]) (fun t => by simp only [p_impl_eachCall_b4, not_lt_int, cond_false]) (by omega)
    rw [funIn1_ok n m _ _ _ _ _ _ (by omega) (by omega)]
    simp only [Option.bind_some, b1, b2, b3, b4]
    cases decide (a.f0 = 8) <;> cases ok <;> cases callOk m a.f2 a.f3.length <;> rfl
end Go.Own.Q
