/- The program's answer: whether an expression is right; in plain Lean. No conditions. -/
import Derived.Test.YtgeomhdbckjkcaaW15ExprOk3
set_option linter.unusedVariables false
set_option linter.unusedSimpArgs false
set_option linter.unnecessarySimpa false
namespace Go.Own.Q
open Go Go.Proofs

/-! the names that stand behind an expression -/
mutual
def nmx : S_impl_Expr → List (List UInt8) → List (List UInt8)
  | .mk _ _ _ l c, ns => nmc c (nmxs l ns)
def nmxs : List S_impl_Expr → List (List UInt8) → List (List UInt8)
  | [], ns => ns
  | x :: r, ns => nmxs r (nmx x ns)
def nmc : List S_impl_Clause → List (List UInt8) → List (List UInt8)
  | [], ns => ns
  | x :: r, ns => nmc r (nmk x ns)
def nmk : S_impl_Clause → List (List UInt8) → List (List UInt8)
  | .two p x, _ => nmx x (vars p)
end
theorem nmx_e (a : S_impl_Expr) (ns : List (List UInt8)) : nmx a ns = nmc a.f4 (nmxs a.f3 ns) := by cases a; simp only [nmx]; rfl
theorem nmk_e (a : S_impl_Clause) (ns : List (List UInt8)) : nmk a ns = nmx a.x (vars a.p) := by cases a; simp only [nmk]; rfl
def jst {α : Type} (ok : α → Bool) (c : α → Nat) (nm : α → List (List UInt8) → List (List UInt8)) (t : JS) (a : α) : JS ⊕ Unit := bif ok a && decide (t.1 + c a ≤ 300) then .inl (t.1 + c a, nm a t.2) else .inr ()
def jfold {α : Type} (nm : α → List (List UInt8) → List (List UInt8)) : List α → List (List UInt8) → List (List UInt8)
  | [], ns => ns
  | a :: r, ns => jfold nm r (nm a ns)
theorem nmxs_fold : ∀ (l : List S_impl_Expr) (ns : List (List UInt8)), nmxs l ns = jfold nmx l ns
  | [], ns => rfl
  | x :: r, ns => by simp only [nmxs, jfold, nmxs_fold r]
theorem nmc_fold : ∀ (l : List S_impl_Clause) (ns : List (List UInt8)), nmc l ns = jfold nmk l ns
  | [], ns => rfl
  | x :: r, ns => by simp only [nmc, jfold, nmc_fold r]
theorem jst_scan {α : Type} (ok : α → Bool) (c : α → Nat) (nm : α → List (List UInt8) → List (List UInt8)) : ∀ (l : List α) (t : JS), t.1 ≤ 300 → scan (jst ok c nm) l t = bif l.all ok && decide (t.1 + sumz c l ≤ 300) then .inl (t.1 + sumz c l, jfold nm l t.2) else .inr ()
  | [], t, h => by
    have e : decide (t.1 + ((sumz c [] : Nat) : Int) ≤ 300) = true := decide_eq_true (by simp only [sumz]; omega)
    rw [e]
    simp [scan, sumz, jfold]
  | a :: r, t, h => by
    simp only [scan]
    have e1 : sumz c (a :: r) = c a + sumz c r := rfl
    rw [e1, List.all_cons]
    by_cases q : (ok a && decide (t.1 + c a ≤ 300)) = true
    · have e3 : jst ok c nm t a = .inl (t.1 + c a, nm a t.2) := by unfold jst; rw [q]; rfl
      simp only [Bool.and_eq_true, decide_eq_true_eq] at q
      rw [e3, q.1, Bool.true_and]
      simp only
      rw [jst_scan ok c nm r _ q.2]
      simp only
      rw [show t.1 + ((c a + sumz c r : Nat) : Int) = t.1 + c a + sumz c r by omega]
      rfl
    · have e3 : jst ok c nm t a = .inr () := by unfold jst; rw [Bool.not_eq_true] at q; rw [q]; rfl
      rw [e3]
      simp only
      cases h1 : ok a with
      | false => rfl
      | true =>
        rw [h1, Bool.true_and, decide_eq_true_eq] at q
        rw [decide_eq_false (show ¬ t.1 + ((c a + sumz c r : Nat) : Int) ≤ 300 by omega)]
        cases r.all ok <;> rfl
/-- A loop that judges each. -/
theorem loop_judge {α : Type} {body : Int × Int × List (List UInt8) → Option ((Int × Int × List (List UInt8)) ⊕ ((Bool × Int × List (List UInt8)) ⊕ (Int × Bool × Int × List (List UInt8))))} (l : List α) (ok : α → Bool) (c : α → Nat) (nm : α → List (List UInt8) → List (List UInt8))
    (hs : ∀ (i : Nat) a (t : JS), l[i]? = some a → 0 ≤ t.1 → t.1 ≤ 300 → ∃ u v, body ((i : Int), t.1, t.2) = some (bif ok a && decide (t.1 + c a ≤ 300) then .inl (((i + 1 : Nat) : Int), t.1 + c a, nm a t.2) else .inr (.inl (false, u, v)))) (he : ∀ t : JS, body ((l.length : Int), t.1, t.2) = some (.inr (.inr ((l.length : Int), false, t.1, t.2)))) {n : Nat} (hn : l.length < n)
    (t0 : JS) (g0 : 0 ≤ t0.1) (g1 : t0.1 ≤ 300) : ∃ x, loopN body n ((0 : Int), t0.1, t0.2) = some x ∧ (bif l.all ok && decide (t0.1 + sumz c l ≤ 300) then x = .inr ((l.length : Int), false, t0.1 + sumz c l, jfold nm l t0.2) else ∃ u v, x = .inl (false, u, v)) := by
  obtain ⟨x, x1, x2⟩ := loop_scanR (body := body) l (jst ok c nm) (fun t i => ((i : Int), t.1, t.2)) (fun t => .inr ((l.length : Int), false, t.1, t.2)) (fun _ x => ∃ u v, x = .inl (false, u, v)) (fun t => 0 ≤ t.1 ∧ t.1 ≤ 300) (fun i a t ha ht => by
    obtain ⟨u, v, h⟩ := hs i a t ha ht.1 ht.2
    unfold jst
    by_cases z : (ok a && decide (t.1 + c a ≤ 300)) = true
    · rw [z] at h ⊢
      simp only [Bool.and_eq_true, decide_eq_true_eq] at z
      left; exact ⟨_, rfl, ⟨by show 0 ≤ t.1 + (c a : Int); omega, z.2⟩, h⟩
    · rw [Bool.not_eq_true] at z
      rw [z] at h ⊢
      right; exact ⟨(), _, rfl, h, _, _, rfl⟩) (fun t _ => he t) hn (t0 := t0) ⟨g0, g1⟩
  refine ⟨x, x1, ?_⟩
  rw [jst_scan ok c nm l t0 g1] at x2
  revert x2
  cases (l.all ok && decide (t0.1 + sumz c l ≤ 300)) <;> exact id
theorem judge_expr_ok : ∀ (n : Nat), n ≤ 1099511627776 → ∀ (a : S_impl_Expr) (d : Nat) (c : Int) (ns : List (List UInt8)), d ≤ 10 → 0 ≤ c → c ≤ 300 → wExpr a + 400 < n → ∃ r, p_impl_judge_expr n a.f0 a.f1 a.f2 a.f3 a.f4 (11 - (d : Int)) c ns = some r ∧ pJ (xok d false a && decide (c + xcnt a ≤ 300)) (c + xcnt a) (nmx a ns) r
  | 0, _, a, d, c, ns, hd, c0, c1, h => by omega
  | n + 1, hn, a, d, c, ns, hd, c0, c1, h => by
    have ih := judge_expr_ok n (by omega)
    rw [p_impl_judge_expr_succ]
    unfold s_impl_judge_expr
    rw [wExpr_e, wExprs_dl, wClauses_dl] at h
    have hl := dl_len wExpr a.f3
    have hl2 := dl_len wClause a.f4
    have hp := xcnt_e a
    rw [shapeOk_ok n _ _ _ _ (by omega) (by omega), wrap_i64 (n := c + 1) (by omega) (by omega)]
    cases d with
    | zero =>
      rw [decide_eq_true (show (10 : Int) < 11 - ((0 : Nat) : Int) by omega)]
      exact ⟨_, rfl, rfl, fun h => by cases h⟩
    | succ d =>
      rw [decide_eq_false (show ¬ (10 : Int) < 11 - ((d + 1 : Nat) : Int) by omega), xok_succ]
      by_cases ht : 300 < c + 1
      · rw [decide_eq_true ht, decide_eq_false (show ¬ c + (xcnt a : Int) ≤ 300 by omega), Bool.and_false]
        exact ⟨_, rfl, rfl, fun h => by cases h⟩
      rw [decide_eq_false ht]
      have hsp := shp_expr a.f0 a.f1 a.f2 a.f3.length a.f4.length
      cases hs : shp false a.f0 a.f1 a.f2 a.f3.length a.f4.length with
      | false =>
        rw [hs] at hsp
        refine ⟨(false, c + 1, ns), ?_, rfl, fun h => by cases h⟩
        generalize decide (a.f2 = [95]) = z1 at hsp ⊢
        generalize decide ((6 : Int) < a.f4.length) = z2 at hsp ⊢
        revert hsp
        cases shp0 a.f0 a.f1 a.f2 a.f3.length <;> cases decide (a.f0 = 3) <;> cases decide (a.f0 = 9) <;> cases decide ((0 : Int) < a.f4.length) <;> cases z1 <;> cases z2 <;> intro hsp <;> first | rfl | cases hsp
      | true =>
        rw [hs] at hsp
        simp only [Bool.and_eq_true] at hsp
        obtain ⟨p1, p2, p3, p4⟩ := hsp
        simp only [Bool.not_not] at p3
        have p2' : (bif decide (a.f0 = 3) then some (decide (a.f2 = [95])) else some false) = some false := by
          generalize decide (a.f2 = [95]) = z1 at p2 ⊢
          revert p2
          cases decide (a.f0 = 3) <;> cases z1 <;> simp
        rw [Bool.not_eq_true'] at p4
        rw [p1, p3, p4]
        simp only [cond_false, Option.bind_some, Bool.not_true, Bool.true_and, p2']
        rw [nmx_e, nmc_fold, nmxs_fold]
        rw [xcnts_sum, ccnts_sum] at hp
        generalize xcnt a = q at hp ⊢
        generalize a.f3 = l at h hl hp ⊢
        generalize a.f4 = cl at h hl2 hp ⊢
        have e1 : IntKind.wrap .i64 (11 - ((d + 1 : Nat) : Int) + 1) = 11 - (d : Int) := by rw [wrap_i64 (by omega) (by omega)]; omega
        obtain ⟨x, x1, x2⟩ := loop_judge (body := p_impl_judge_expr_b1 n (p_impl_judge_expr n) (11 - ((d + 1 : Nat) : Int)) l) l (xok d false) xcnt nmx (fun i b t hb t0 t1 => by
          have hi := lt_len hb
          have hm := dl_mem wExpr (List.mem_of_getElem? hb)
          obtain ⟨⟨rb, rc, rn⟩, r1, r2, r3⟩ := ih b d t.1 t.2 (by omega) t0 t1 (by omega)
          simp only at r2 r3
          refine ⟨rc, rn, ?_⟩
          simp only [p_impl_judge_expr_b1, lt_int hb, cond_true, ix_nat, hb, Option.bind_some, e1, r1, wrap_succ (show i < 4611686018427387904 by omega)]
          rw [r2]
          revert r3
          cases (xok d false b && decide (t.1 + xcnt b ≤ 300)) with
          | true =>
            intro r3
            have r4 := r3 rfl
            simp only [Prod.mk.injEq] at r4
            obtain ⟨rfl, rfl⟩ := r4
            rfl
          | false => intro _; rfl) (fun t => by simp only [p_impl_judge_expr_b1, not_lt_int, cond_false]) (n := n) (by omega) (c + 1, ns) (by show 0 ≤ c + 1; omega) (by show c + 1 ≤ 300; omega)
        have x1 : loopN (p_impl_judge_expr_b1 n (p_impl_judge_expr n) (11 - ((d + 1 : Nat) : Int)) l) n ((0 : Int), c + 1, ns) = some x := x1
        simp only [x1, Option.bind_some]
        simp only at x2
        cases hz : (l.all (xok d false) && decide (c + 1 + (sumz xcnt l : Int) ≤ 300)) with
        | false =>
          rw [hz] at x2
          simp only [cond_false] at x2
          obtain ⟨u, v, rfl⟩ := x2
          have e5 : (l.all (xok d false) && cl.all (cok d) && decide (c + (q : Int) ≤ 300)) = false := by
            cases h1 : l.all (xok d false) with
            | false => rfl
            | true =>
              rw [h1, Bool.true_and, decide_eq_false_iff_not] at hz
              rw [decide_eq_false (show ¬ c + (q : Int) ≤ 300 by omega), Bool.and_false]
          rw [e5]
          exact ⟨_, rfl, rfl, fun h => by cases h⟩
        | true =>
          rw [hz] at x2
          simp only [cond_true] at x2
          subst x2
          simp only [Bool.and_eq_true, decide_eq_true_eq] at hz
          rw [hz.1, Bool.true_and]
          simp only
          obtain ⟨y, y1, y2⟩ := loop_judge (body := p_impl_judge_expr_b2 n (p_impl_judge_expr n) (11 - ((d + 1 : Nat) : Int)) cl) cl (cok d) ccnt nmk (fun i b t hb t0 t1 => by
            have hi := lt_len hb
            have hm := dl_mem wClause (List.mem_of_getElem? hb)
            have hw := wClause_e b
            have hcc := ccnt_e b
            obtain ⟨⟨rb, rc, rn⟩, r1, r2, r3⟩ := judge_pat_ok n (by omega) b.p d t.1 [] (by omega) t0 t1 (by simpa using t0) (by omega)
            have r1 : p_impl_judge_pat n b.f0 b.f1 b.f2 b.f3 b.f4 (11 - (d : Int)) t.1 [] = some (rb, rc, rn) := r1
            simp only at r2 r3
            simp only [p_impl_judge_expr_b2, lt_int hb, cond_true, ix_nat, hb, Option.bind_some, e1, r1, wrap_succ (show i < 4611686018427387904 by omega)]
            rw [fr_nil] at r2 r3
            rw [r2]
            unfold cok
            rw [nmk_e]
            cases h1 : (xok d true b.p && (decide (t.1 + xcnt b.p ≤ 300) && once (vars b.p))) with
            | false =>
              refine ⟨rc, rn, ?_⟩
              have e6 : (once (vars b.p) && (xok d true b.p && xok d false b.x) && decide (t.1 + ccnt b ≤ 300)) = false := by
                cases h2 : xok d true b.p with
                | false => cases once (vars b.p) <;> rfl
                | true =>
                  cases h3 : once (vars b.p) with
                  | false => rfl
                  | true =>
                    rw [h2, h3, Bool.true_and, Bool.and_true, decide_eq_false_iff_not] at h1
                    rw [decide_eq_false (show ¬ t.1 + (ccnt b : Int) ≤ 300 by omega), Bool.and_false]
              rw [e6]; rfl
            | true =>
              rw [h1] at r3
              have r4 := r3 rfl
              simp only [Prod.mk.injEq, List.nil_append] at r4
              obtain ⟨rfl, rfl⟩ := r4
              simp only [Bool.and_eq_true, decide_eq_true_eq] at h1
              rw [h1.1, h1.2.2, Bool.true_and, Bool.true_and]
              obtain ⟨⟨sb, sc, sn⟩, s1, s2, s3⟩ := ih b.x d (t.1 + xcnt b.p) (vars b.p) (by omega) (by omega) h1.2.1 (by omega)
              have s1 : p_impl_judge_expr n b.f5 b.f6 b.f7 b.f8 b.f9 (11 - (d : Int)) (t.1 + xcnt b.p) (vars b.p) = some (sb, sc, sn) := s1
              simp only at s2 s3
              simp only [Bool.not_true, cond_false, s1, Option.bind_some]
              rw [s2]
              rw [show t.1 + (ccnt b : Int) = t.1 + xcnt b.p + xcnt b.x by omega]
              refine ⟨sc, sn, ?_⟩
              revert s3
              cases (xok d false b.x && decide (t.1 + (xcnt b.p : Int) + xcnt b.x ≤ 300)) with
              | true =>
                intro s3
                have s4 := s3 rfl
                simp only [Prod.mk.injEq] at s4
                obtain ⟨rfl, rfl⟩ := s4
                rfl
              | false => intro _; rfl) (fun t => by simp only [p_impl_judge_expr_b2, not_lt_int, cond_false]) (n := n) (by omega) (c + 1 + (sumz xcnt l : Int), jfold nmx l ns) (by show 0 ≤ c + 1 + (sumz xcnt l : Int); omega) hz.2
          have y1 : loopN (p_impl_judge_expr_b2 n (p_impl_judge_expr n) (11 - ((d + 1 : Nat) : Int)) cl) n ((0 : Int), c + 1 + (sumz xcnt l : Int), jfold nmx l ns) = some y := y1
          rw [y1]
          simp only at y2
          rw [show c + 1 + (sumz xcnt l : Int) + (sumz ccnt cl : Int) = c + q by omega] at y2
          cases hz2 : (cl.all (cok d) && decide (c + (q : Int) ≤ 300)) with
          | true =>
            rw [hz2] at y2
            simp only [cond_true] at y2
            subst y2
            exact ⟨_, rfl, rfl, fun _ => rfl⟩
          | false =>
            rw [hz2] at y2
            simp only [cond_false] at y2
            obtain ⟨u, v, rfl⟩ := y2
            exact ⟨_, rfl, rfl, fun h => by cases h⟩
theorem impl_ExprOk_ok (n : Nat) (hn : n ≤ 1099511627776) (a : S_impl_Expr) (h : wExpr a + 400 < n) : p_impl_ExprOk n a.f0 a.f1 a.f2 a.f3 a.f4 = some (exprOk a) := by
  unfold p_impl_ExprOk exprOk
  obtain ⟨r, r1, r2, r3⟩ := judge_expr_ok n hn a 10 0 [] (by omega) (by omega) (by omega) h
  have r1 : p_impl_judge_expr n a.f0 a.f1 a.f2 a.f3 a.f4 (1 : Int) 0 [] = some r := r1
  rw [r1]
  simp only [Option.bind_some, Option.some.injEq]
  rw [r2, Int.zero_add]
end Go.Own.Q
