/- The program's answer: whether an expression, a pattern, is right; in plain Lean. No conditions. -/
import Derived.Test.YtgeomhdbckjkcaaW16ExprOk2
set_option linter.unusedVariables false
set_option linter.unusedSimpArgs false
set_option linter.unnecessarySimpa false
namespace Go.Own.Q
open Go Go.Proofs

/-- None of these is among those, nor twice. -/
def fr : List (List UInt8) → List (List UInt8) → Bool
 | _, [] => true
 | P, v :: r => !decide (v ∈ P) && fr (P ++ [v]) r
theorem fr_app : ∀ (V W P : List (List UInt8)), fr P (V ++ W) = (fr P V && fr (P ++ V) W)
 | [], W, P => by simp [fr]
 | v :: V, W, P => by
  simp only [List.cons_append, fr, fr_app V W (P ++ [v]), List.append_assoc, Bool.and_assoc, List.nil_append]
theorem fr_iff : ∀ (V P : List (List UInt8)), P.Nodup → (fr P V = true ↔ (P ++ V).Nodup)
 | [], P, h => by simp [fr, h]
 | v :: V, P, h => by
  simp only [fr, Bool.and_eq_true, Bool.not_eq_true', decide_eq_false_iff_not]
  have e : P ++ v :: V = (P ++ [v]) ++ V := by simp
  constructor
  ·rintro ⟨h1, h2⟩
   have hn : (P ++ [v]).Nodup := by
    rw [List.nodup_append]
    exact ⟨h, by simp, fun a ha b hb => by simp only [List.mem_singleton] at hb; subst hb; exact fun e => h1 (e ▸ ha)⟩
   rw [e]; exact (fr_iff V _ hn).1 h2
  ·intro h2
   rw [e] at h2
   have hn := (List.nodup_append.1 h2).1
   refine ⟨fun hm => ?_, (fr_iff V _ hn).2 h2⟩
   exact (List.nodup_append.1 hn).2.2 v hm v (by simp) rfl
theorem fr_nil (V : List (List UInt8)) : fr [] V = once V := by
 rw [Bool.eq_iff_iff, fr_iff V [] List.nodup_nil, once_iff]; simp

mutual
theorem vars_cnt : ∀ e, (vars e).length ≤ xcnt e
 | .mk k m s l c => by
  have := varss_cnt l
  simp only [vars, xcnt]
  cases decide (k = 3) <;> cases decide (s = [95]) <;> simp <;> omega
theorem varss_cnt : ∀ l, (varss l).length ≤ xcnts l
 | [] => by simp [varss]
 | x :: r => by have := vars_cnt x; have := varss_cnt r; simp only [varss, xcnts, List.length_append]; omega
end
abbrev JS := Int × List (List UInt8)
def jpat (d : Nat) (t : JS) (a : S_impl_Expr) : JS ⊕ Unit := bif xok d true a && (decide (t.1 + xcnt a ≤ 300) && fr t.2 (vars a)) then .inl (t.1 + xcnt a, t.2 ++ vars a) else .inr ()
theorem jpat_scan (d : Nat) : ∀ (l : List S_impl_Expr) (t : JS), t.1 ≤ 300 → scan (jpat d) l t = bif l.all (xok d true) && (decide (t.1 + xcnts l ≤ 300) && fr t.2 (varss l)) then .inl (t.1 + xcnts l, t.2 ++ varss l) else .inr ()
 | [], t, h => by
  have e : decide (t.1 + ((xcnts [] : Nat) : Int) ≤ 300) = true := decide_eq_true (by simp only [xcnts]; omega)
  rw [e]
  simp [scan, varss, fr, xcnts]
 | a :: r, t, h => by
  simp only [scan]
  have e1 : xcnts (a :: r) = xcnt a + xcnts r := by simp only [xcnts]
  have e2 : varss (a :: r) = vars a ++ varss r := by simp only [varss]
  rw [e1, e2, fr_app, List.all_cons]
  by_cases q : (xok d true a && (decide (t.1 + xcnt a ≤ 300) && fr t.2 (vars a))) = true
  ·have e3 : jpat d t a = .inl (t.1 + xcnt a, t.2 ++ vars a) := by unfold jpat; rw [q]; rfl
   simp only [Bool.and_eq_true, decide_eq_true_eq] at q
   obtain ⟨q1, q2, q3⟩ := q
   rw [e3, q1, q3, Bool.true_and, Bool.true_and]
   simp only
   rw [jpat_scan d r _ q2]
   simp only
   rw [show t.1 + ((xcnt a + xcnts r : Nat) : Int) = t.1 + xcnt a + xcnts r by omega, List.append_assoc]
  ·have e3 : jpat d t a = .inr () := by unfold jpat; rw [Bool.not_eq_true] at q; rw [q]; rfl
   rw [e3]
   simp only
   cases h1 : xok d true a with
   | false => rfl
   | true =>
    rw [h1, Bool.true_and] at q
    cases h3 : fr t.2 (vars a) with
    | false => cases r.all (xok d true) <;> simp
    | true =>
     rw [h3, Bool.and_true, decide_eq_true_eq] at q
     rw [decide_eq_false (show ¬ t.1 + ((xcnt a + xcnts r : Nat) : Int) ≤ 300 by omega)]
     cases r.all (xok d true) <;> rfl
def jv : (Bool × Int × List (List UInt8)) ⊕ (Int × Bool × Int × List (List UInt8)) → Option (Bool × Int × List (List UInt8))
 | .inl (v, w, z) => some (v, w, z)
 | .inr (_, _, w, z) => some (true, w, z)
def pJ (b : Bool) (c : Int) (ns : List (List UInt8)) (r : Bool × Int × List (List UInt8)) : Prop := r.1 = b ∧ (b = true → r.2 = (c, ns))
theorem judge_pat_ok : ∀ (n : Nat), n ≤ 1099511627776 → ∀ (a : S_impl_Expr) (d : Nat) (c : Int) (ns : List (List UInt8)), d ≤ 10 → 0 ≤ c → c ≤ 300 → (ns.length : Int) ≤ c → wExpr a + 400 < n → ∃ r, p_impl_judge_pat n a.f0 a.f1 a.f2 a.f3 a.f4 (11 - (d : Int)) c ns = some r ∧ pJ (xok d true a && (decide (c + xcnt a ≤ 300) && fr ns (vars a))) (c + xcnt a) (ns ++ vars a) r
 | 0, _, a, d, c, ns, hd, c0, c1, hns, h => by omega
 | n + 1, hn, a, d, c, ns, hd, c0, c1, hns, h => by
  have ih := judge_pat_ok n (by omega)
  rw [p_impl_judge_pat_succ]
  unfold s_impl_judge_pat
  rw [wExpr_e, wExprs_dl, wClauses_dl] at h
  have hl := dl_len wExpr a.f3
  have hp := xcnt_e a
  have hv := vars_e a
  rw [shapeOk_ok n _ _ _ _ (by omega) (by omega), wrap_i64 (n := c + 1) (by omega) (by omega)]
  cases d with
  | zero =>
   rw [decide_eq_true (show (10 : Int) < 11 - ((0 : Nat) : Int) by omega)]
   exact ⟨_, rfl, rfl, fun h => by cases h⟩
  | succ d =>
   rw [decide_eq_false (show ¬ (10 : Int) < 11 - ((d + 1 : Nat) : Int) by omega), xok_succ]
   by_cases ht : 300 < c + 1
   ·rw [decide_eq_true ht, decide_eq_false (show ¬ c + (xcnt a : Int) ≤ 300 by omega)]
    refine ⟨_, rfl, ?_, ?_⟩ <;> cases shp true a.f0 a.f1 a.f2 a.f3.length a.f4.length <;> cases (a.f3.all (xok d true) && a.f4.all (cok d)) <;> simp
   rw [decide_eq_false ht]
   have hsp := shp_pat a.f0 a.f1 a.f2 a.f3.length a.f4.length
   cases hs : shp true a.f0 a.f1 a.f2 a.f3.length a.f4.length with
   | false =>
    rw [hs] at hsp
    refine ⟨(false, c + 1, ns), ?_, rfl, fun h => by cases h⟩
    revert hsp
    cases decide (6 < a.f0) <;> cases decide ((0 : Int) < a.f4.length) <;> cases shp0 a.f0 a.f1 a.f2 a.f3.length <;> intro hsp <;> first | rfl | cases hsp
   | true =>
    rw [hs] at hsp
    simp only [Bool.and_eq_true, Bool.not_eq_true'] at hsp
    obtain ⟨p1, p2, p3⟩ := hsp
    have hc0 : a.f4 = [] := by
     rw [decide_eq_false_iff_not] at p2
     cases hx : a.f4 with
     | nil => rfl
     | cons x r => rw [hx] at p2; simp only [List.length_cons] at p2; omega
    rw [p1, p2, p3]
    have hcc : a.f4.all (cok d) = true := by rw [hc0]; rfl
    have hcn : ccnts a.f4 = 0 := by rw [hc0]; rfl
    rw [hcc, Bool.and_true]
    simp only [cond_false, Option.bind_some, Bool.not_true, Bool.true_and]
    generalize xcnt a = q at hp ⊢
    have e1 : IntKind.wrap .i64 (11 - ((d + 1 : Nat) : Int) + 1) = 11 - (d : Int) := by rw [wrap_i64 (by omega) (by omega)]; omega
    -- the loop
    have loop : ∀ (l : List S_impl_Expr), dl wExpr l + 401 ≤ n → ∀ (body : Int × Int × List (List UInt8) → Option ((Int × Int × List (List UInt8)) ⊕ ((Bool × Int × List (List UInt8)) ⊕ (Int × Bool × Int × List (List UInt8))))), (∀ (i : Nat) b (t : JS), l[i]? = some b → body ((i : Int), t.1, t.2) = (p_impl_judge_pat n b.f0 b.f1 b.f2 b.f3 b.f4 (11 - (d : Int)) t.1 t.2).bind fun r => bif !r.1 then some (.inr (.inl (false, r.2.1, r.2.2))) else some (.inl (((i + 1 : Nat) : Int), r.2.1, r.2.2))) → (∀ t : JS, body ((l.length : Int), t.1, t.2) = some (.inr (.inr ((l.length : Int), false, t.1, t.2)))) →
      ∀ t0 : JS, 0 ≤ t0.1 → t0.1 ≤ 300 → (t0.2.length : Int) ≤ t0.1 → ∃ x, loopN body n ((0 : Int), t0.1, t0.2) = some x ∧ (match scan (jpat d) l t0 with | .inl t => x = .inr ((l.length : Int), false, t.1, t.2) | .inr _ => ∃ u v, x = .inl (false, u, v)) := by
     intro l hw body hs he t0 g0 g1 g2
     have hll := dl_len wExpr l
     obtain ⟨x, x1, x2⟩ := loop_scanR (body := body) l (jpat d) (fun t i => ((i : Int), t.1, t.2)) (fun t => .inr ((l.length : Int), false, t.1, t.2)) (fun _ x => ∃ u v, x = .inl (false, u, v)) (fun t => 0 ≤ t.1 ∧ t.1 ≤ 300 ∧ (t.2.length : Int) ≤ t.1) (fun i b t hb ht => by
      have hm := dl_mem wExpr (List.mem_of_getElem? hb)
      obtain ⟨r, r1, r2, r3⟩ := ih b d t.1 t.2 (by omega) ht.1 ht.2.1 ht.2.2 (by omega)
      rw [hs i b t hb, r1]
      unfold jpat
      obtain ⟨rb, rc, rn⟩ := r
      simp only at r2 r3
      simp only [Option.bind_some]
      rw [r2]
      by_cases hz : (xok d true b && (decide (t.1 + xcnt b ≤ 300) && fr t.2 (vars b))) = true
      ·left
       have r4 := r3 hz
       simp only [Prod.mk.injEq] at r4
       obtain ⟨rfl, rfl⟩ := r4
       rw [hz]
       simp only [Bool.and_eq_true, decide_eq_true_eq] at hz
       have hvc := vars_cnt b
       refine ⟨_, rfl, ⟨?_, hz.2.1, ?_⟩, rfl⟩
       ·show 0 ≤ t.1 + (xcnt b : Int); omega
       ·show ((t.2 ++ vars b).length : Int) ≤ t.1 + (xcnt b : Int)
        rw [List.length_append]; omega
      ·right
       rw [Bool.not_eq_true] at hz
       rw [hz]
       exact ⟨(), _, rfl, rfl, _, _, rfl⟩) (fun t _ => he t) (n := n) (by omega) (t0 := t0) ⟨g0, g1, g2⟩
     refine ⟨x, x1, ?_⟩
     revert x2
     cases scan (jpat d) l t0 <;> exact id
    have fin : ∀ (t0 : JS) (x : (Bool × Int × List (List UInt8)) ⊕ (Int × Bool × Int × List (List UInt8))), t0.1 = c + 1 → (match scan (jpat d) a.f3 t0 with | .inl t => x = .inr ((a.f3.length : Int), false, t.1, t.2) | .inr _ => ∃ u v, x = .inl (false, u, v)) →
      ∃ r, jv x = some r ∧ pJ (a.f3.all (xok d true) && (decide (c + (q : Int) ≤ 300) && fr t0.2 (varss a.f3))) (c + q) (t0.2 ++ varss a.f3) r := by
     intro t0 x e0 hx
     rw [jpat_scan d a.f3 t0 (by omega), e0, show c + 1 + (xcnts a.f3 : Int) = c + q by omega] at hx
     cases hz : (a.f3.all (xok d true) && (decide (c + (q : Int) ≤ 300) && fr t0.2 (varss a.f3))) with
     | true =>
      rw [hz] at hx
      simp only [cond_true] at hx
      subst hx
      exact ⟨_, rfl, rfl, fun _ => rfl⟩
     | false =>
      rw [hz] at hx
      simp only [cond_false] at hx
      obtain ⟨u, v, rfl⟩ := hx
      exact ⟨_, rfl, rfl, fun h => by cases h⟩
    by_cases h3 : a.f0 = 3
    ·have hne : a.f3 = [] := by
      rw [h3] at p3
      have e : shp0 3 a.f1 a.f2 a.f3.length = (decide (a.f1 = 0) && (varOk a.f2 && decide ((a.f3.length : Int) = 0))) := rfl
      rw [e] at p3
      simp only [Bool.and_eq_true, decide_eq_true_eq] at p3
      have := p3.2.2
      cases hx : a.f3 with
      | nil => rfl
      | cons x r => rw [hx] at this; simp only [List.length_cons] at this; omega
     rw [decide_eq_true h3]
     rw [decide_eq_true h3] at hv
     simp only [cond_true] at hv
     rw [hv]
     have hvs : varss a.f3 = [] := by rw [hne]; rfl
     cases hu : decide (a.f2 = [95]) with
     | true =>
      simp only [Bool.not_true, cond_true, Option.bind_some, cond_false]
      obtain ⟨x, x1, x2⟩ := loop a.f3 (by omega) (p_impl_judge_pat_b2 n (p_impl_judge_pat n) (11 - ((d + 1 : Nat) : Int)) a.f3) (fun i b t hb => by
       have hi := lt_len hb
       simp only [p_impl_judge_pat_b2, lt_int hb, cond_true, ix_nat, hb, Option.bind_some, e1, wrap_succ (show i < 4611686018427387904 by omega)]) (fun t => by simp only [p_impl_judge_pat_b2, not_lt_int, cond_false]) (c + 1, ns) (by show 0 ≤ c + 1; omega) (by show c + 1 ≤ 300; omega) (by show (ns.length : Int) ≤ c + 1; omega)
      have f := fin (c + 1, ns) x rfl x2
      rw [hvs] at f
      rw [x1]
      obtain ⟨r, f1, f2⟩ := f
      exact ⟨r, by rcases x with ⟨u, v, w⟩ | ⟨u, v, w, z⟩ <;> exact f1, f2⟩
     | false =>
      simp only [Bool.not_false, cond_true, Option.bind_some]
      rw [contains_ok n ns a.f2 (by omega) (by omega)]
      simp only [Option.bind_some]
      cases hm : decide (a.f2 ∈ ns) with
      | true =>
       have e6 : fr ns [a.f2] = false := by simp only [fr, hm]; rfl
       have e7 : (a.f3.all (xok d true) && (decide (c + (q : Int) ≤ 300) && fr ns [a.f2])) = false := by rw [e6]; cases a.f3.all (xok d true) <;> simp
       rw [cond_false, e7]
       exact ⟨_, rfl, rfl, fun h => by cases h⟩
      | false =>
       have hap : app2 16 ns [a.f2] = some (ns ++ [a.f2]) := app2_of (by simp only [List.length_singleton]; omega) (by simp only [List.length_singleton, maxLen]; omega)
       rw [hap]
       simp only [cond_false, Option.bind_some]
       obtain ⟨x, x1, x2⟩ := loop a.f3 (by omega) (p_impl_judge_pat_b1 n (p_impl_judge_pat n) (11 - ((d + 1 : Nat) : Int)) a.f3) (fun i b t hb => by
        have hi := lt_len hb
        simp only [p_impl_judge_pat_b1, lt_int hb, cond_true, ix_nat, hb, Option.bind_some, e1, wrap_succ (show i < 4611686018427387904 by omega)]) (fun t => by simp only [p_impl_judge_pat_b1, not_lt_int, cond_false]) (c + 1, ns ++ [a.f2]) (by show 0 ≤ c + 1; omega) (by show c + 1 ≤ 300; omega) (by show ((ns ++ [a.f2]).length : Int) ≤ c + 1; rw [List.length_append, List.length_singleton]; omega)
       have f := fin (c + 1, ns ++ [a.f2]) x rfl x2
       rw [hvs, List.append_nil] at f
       have e5 : fr ns [a.f2] = fr (ns ++ [a.f2]) [] := by simp only [fr, hm]; rfl
       rw [e5, x1]
       obtain ⟨r, f1, f2⟩ := f
       exact ⟨r, by rcases x with ⟨u, v, w⟩ | ⟨u, v, w, z⟩ <;> exact f1, f2⟩
    ·rw [decide_eq_false h3] at hv ⊢
     simp only [cond_false] at hv
     rw [hv]
     simp only [cond_false, Option.bind_some]
     obtain ⟨x, x1, x2⟩ := loop a.f3 (by omega) (p_impl_judge_pat_b2 n (p_impl_judge_pat n) (11 - ((d + 1 : Nat) : Int)) a.f3) (fun i b t hb => by
      have hi := lt_len hb
      simp only [p_impl_judge_pat_b2, lt_int hb, cond_true, ix_nat, hb, Option.bind_some, e1, wrap_succ (show i < 4611686018427387904 by omega)]) (fun t => by simp only [p_impl_judge_pat_b2, not_lt_int, cond_false]) (c + 1, ns) (by show 0 ≤ c + 1; omega) (by show c + 1 ≤ 300; omega) (by show (ns.length : Int) ≤ c + 1; omega)
     have f := fin (c + 1, ns) x rfl x2
     rw [x1]
     obtain ⟨r, f1, f2⟩ := f
     exact ⟨r, by rcases x with ⟨u, v, w⟩ | ⟨u, v, w, z⟩ <;> exact f1, f2⟩
end Go.Own.Q
