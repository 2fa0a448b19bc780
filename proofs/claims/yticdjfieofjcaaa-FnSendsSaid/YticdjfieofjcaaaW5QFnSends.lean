/- The law of FnSends, in plain Lean. No conditions. -/
import Derived.Test.YticdjfieofjcaaaW5Qdraw
set_option linter.unusedVariables false
set_option linter.unusedSimpArgs false
set_option linter.unnecessarySimpa false
namespace Go.Own
open Go Go.Proofs

def Tup0 (x : S_impl_Term) : Prop := x.f0 = 4 → x.f1 = 0 ∧ x.f2 = []

theorem DrawSendsOf_ok {n : Nat} (hn : 5000 ≤ n) {code : List Int} (hl : code.length ≤ 1048576) : ∃ k l, p_spec_DrawSendsOf n code = some (k, 0, [], l) ∧ (∀ x ∈ l, Tup0 x) ∧ tszs l ≤ 50 := by
  obtain ⟨s0, h0⟩ := l1New_ok (n := n) (by omega) code
  obtain ⟨q, i1, s1, h1, hq0, hq4, hi1⟩ := l1Below_ok n (t := 4) (s := s0) hl (Int.le_refl 0) (by omega) (by omega)
  have hloop := loopN_of (body := p_spec_DrawSendsOf_b1 n) (fun j (st : Int × Int × Int × List UInt8 × List S_impl_Term × List Int × Int × Int) => st.1 = (j : Int) ∧ j ≤ 3 ∧ st.2.1 = 5 ∧ st.2.2.1 = 0 ∧ st.2.2.2.1 = [] ∧ tszs st.2.2.2.2.1 + 12 * j ≤ 36 ∧ (∀ x ∈ st.2.2.2.2.1, Tup0 x) ∧ st.2.2.2.2.2.1 = code ∧ 0 ≤ st.2.2.2.2.2.2.1)
    (fun r => r.2.2.1 = 5 ∧ r.2.2.2.1 = 0 ∧ r.2.2.2.2.1 = [] ∧ tszs r.2.2.2.2.2.1 ≤ 36 ∧ (∀ x ∈ r.2.2.2.2.2.1, Tup0 x) ∧ r.2.2.2.2.2.2.1 = code ∧ 0 ≤ r.2.2.2.2.2.2.2.1) (fun j st hst => by
      obtain ⟨v6, w5, w6, w7, w8, w9, w10, w11⟩ := st
      simp only at hst
      obtain ⟨e1, e2, e3, e4, e5, e6, e7, e8, e9⟩ := hst
      subst e1; subst e3; subst e4; subst e5; subst e8
      by_cases hj : (0 : Int) < (j : Int)
      · left
        have hlen := tszs_len w8
        obtain ⟨b, i2, s2, h2, hi2⟩ := l1Once_ok n (t := 3) (s := w11) hl e9 (by omega) (by omega)
        obtain ⟨jm, rfl⟩ : ∃ jm, j = jm + 1 := ⟨j - 1, by omega⟩
        have fin : ∀ (a x : S_impl_Term), tsz a ≤ 1 → tsz x ≤ 7 → tszs (w8 ++ [S_impl_Term.mk 4 0 [] [a, x]]) + 12 * jm ≤ 36 ∧ ∀ y ∈ w8 ++ [S_impl_Term.mk 4 0 [] [a, x]], Tup0 y := fun a x ha hx => by
          refine ⟨?_, fun y hy => ?_⟩
          · simp only [tszs_append, tszs, tsz]; omega
          · rcases List.mem_append.1 hy with h | h
            · exact e7 y h
            · rw [List.mem_singleton] at h
              subst h
              exact fun _ => ⟨rfl, rfl⟩
        have hw : IntKind.wrap .i64 (((jm + 1 : Nat) : Int) - 1) = (jm : Int) := by rw [wrap_i64 (by omega) (by omega)]; omega
        cases b with
        | true =>
          obtain ⟨a, i3, s3, h3, ha, hi3⟩ := l2Draw_ok 0 n (s := s2) hl hi2 (by omega) (by omega)
          obtain ⟨x, i4, s4, h4, hx, hi4⟩ := l2Draw_ok 1 n (s := s3) hl hi3 (by omega) (by omega)
          have h3 : p_spec_l2Draw n (0 : Int) w9 i2 s2 = _ := h3
          have h4 : p_spec_l2Draw n (1 : Int) w9 i3 s3 = _ := h4
          obtain ⟨f1, f2⟩ := fin a x ha.2 hx.2
          simp only [p_spec_DrawSendsOf_b1, hj, decide_true, cond_true, p_spec_l13Atom, Option.bind_some, h2, h3, h4]
          rw [app2_of (by simp; omega) (by simp [maxLen]; omega)]
          simp only [Option.bind_some, term_eta, hw]
          exact ⟨_, jm, rfl, by omega, rfl, by omega, rfl, rfl, rfl, f1, f2, rfl, hi4⟩
        | false =>
          obtain ⟨x, i4, s4, h4, hx, hi4⟩ := l2Draw_ok 1 n (s := s2) hl hi2 (by omega) (by omega)
          have h4 : p_spec_l2Draw n (1 : Int) w9 i2 s2 = _ := h4
          obtain ⟨f1, f2⟩ := fin (.mk 2 0 [97] []) x (by simp [tsz, tszs]) hx.2
          simp only [p_spec_DrawSendsOf_b1, hj, decide_true, cond_true, cond_false, p_spec_l13Atom, Option.bind_some, h2, h4]
          rw [app2_of (by simp; omega) (by simp [maxLen]; omega)]
          simp only [Option.bind_some, term_eta, hw]
          exact ⟨_, jm, rfl, by omega, rfl, by omega, rfl, rfl, rfl, f1, f2, rfl, hi4⟩
      · right
        simp only [p_spec_DrawSendsOf_b1, hj, decide_false, cond_false]
        exact ⟨_, rfl, rfl, rfl, rfl, by simp only; omega, e7, rfl, e9⟩) (n := n) (m := q.toNat) (s := (q, 5, 0, [], [], code, i1, s1)) ⟨by simp only; omega, by omega, rfl, rfl, rfl, by simp only [tszs]; omega, fun x hx => (by cases hx), rfl, hi1⟩ (by omega)
  obtain ⟨⟨r0, r1, r2, r3, r4, r5, r6, r7, r8⟩, g1, g2⟩ := hloop
  simp only at g2
  obtain ⟨rfl, rfl, rfl, f4, f5, rfl, f7⟩ := g2
  obtain ⟨b, i2, s2, h2, hi2⟩ := l1Once_ok n (t := 6) (s := r8) hl f7 (by omega) (by omega)
  have hlen := tszs_len r5
  unfold p_spec_DrawSendsOf
  simp only [h0, h1, g1, h2, Option.bind_some]
  cases b with
  | true =>
    obtain ⟨x, i4, s4, h4, hx, hi4⟩ := l2Draw_ok 1 n (s := s2) hl hi2 (by omega) (by omega)
    have h4 : p_spec_l2Draw n (1 : Int) r6 i2 s2 = _ := h4
    obtain ⟨c, i5, s5, h5, _⟩ := l1Once_ok n (t := 12) (s := s4) hl hi4 (by omega) (by omega)
    have hgood : (∀ y ∈ r5 ++ [x], Tup0 y) ∧ tszs (r5 ++ [x]) ≤ 50 := by
      refine ⟨fun y hy => ?_, ?_⟩
      · rcases List.mem_append.1 hy with h | h
        · exact f5 y h
        · rw [List.mem_singleton] at h
          subst h
          exact hx.1
      · have := hx.2
        simp only [tszs_append, tszs, drawB] at this ⊢
        omega
    simp only [cond_true, h4, Option.bind_some]
    rw [app2_of (by simp; omega) (by simp [maxLen]; omega)]
    simp only [Option.bind_some, h5, term_eta]
    cases c with
    | true => exact ⟨4, r5 ++ [x], rfl, hgood⟩
    | false => exact ⟨5, r5 ++ [x], rfl, hgood⟩
  | false =>
    obtain ⟨c, i5, s5, h5, _⟩ := l1Once_ok n (t := 12) (s := s2) hl hi2 (by omega) (by omega)
    simp only [cond_false, h5, Option.bind_some]
    cases c with
    | true => exact ⟨4, r5, rfl, f5, by omega⟩
    | false => exact ⟨5, r5, rfl, f5, by omega⟩

theorem FnSends_ok (code : List Int) : p_laws_FnSends 6000 code = some true := by
  unfold p_laws_FnSends
  by_cases h : (1048576 : Int) < code.length
  · simp only [p_laws_big, h, decide_true, Option.bind_some, cond_true]
  · obtain ⟨k, l, h1, h2, h3⟩ := DrawSendsOf_ok (n := 6000) (by omega) (code := code) (by omega)
    have hlen := tszs_len l
    simp only [p_laws_big, h, decide_false, Option.bind_some, cond_false, h1, impl_SendsOf_ok 6000 k 0 [] l (by omega) (by omega), spec_SendsOf_ok 6000 k 0 [] l (by omega) (by omega), beq_self_eq_true, Bool.not_true, cond_true]
    unfold sendsR
    by_cases hk : k = 5
    · by_cases hall : l.all sendOk = true
      · simp only [hk, hall, if_true, Bool.not_true, cond_false]
        have key := loop_for (body := p_laws_FnSends_b1 6000 (5, 0, [], l) (l.map sendOf, true)) (fun i => (i : Int)) (len := l.length) (r := .inr ((l.length : Int), false)) (fun i hi => by
          have hx : l[i]? = some l[i] := List.getElem?_eq_getElem hi
          obtain ⟨h4, a, b, e, hab⟩ := sendOk_of (List.all_eq_true.1 hall _ (List.getElem_mem hi))
          have hm : (l.map sendOf)[i]? = some (sendOf l[i]) := by rw [List.getElem?_map, hx]; rfl
          have es : sendOf l[i] = .mk a.f0 a.f1 a.f2 a.f3 b.f0 b.f1 b.f2 b.f3 := by unfold sendOf; rw [e]
          obtain ⟨t1, t2⟩ := h2 _ (List.getElem_mem hi) h4
          have hs := (same_refl 6000 (by omega)).1 l[i] (by have := tszs_mem (List.getElem_mem hi); omega)
          rw [h4, t1, t2, e] at hs
          have hi' : (i : Int) < ((l.map sendOf).length : Int) := by rw [List.length_map]; omega
          simp only [p_laws_FnSends_b1, hi', decide_true, cond_true, ix_nat, hx, hm, Option.bind_some, es, term_eta, h4, t1, t2, e, hs, Bool.not_true, cond_false, wrap_succ (show i < 4611686018427387904 by omega)]) (by
          have hi' : ¬ (l.length : Int) < ((l.map sendOf).length : Int) := by rw [List.length_map]; omega
          simp only [p_laws_FnSends_b1, hi', decide_false, cond_false]) (n := 6000) (by omega)
        have key : loopN (p_laws_FnSends_b1 6000 (5, 0, [], l) (l.map sendOf, true)) 6000 (0 : Int) = _ := key
        rw [key]
        simp
      · simp [hk, hall]
    · simp [hk]
end Go.Own
