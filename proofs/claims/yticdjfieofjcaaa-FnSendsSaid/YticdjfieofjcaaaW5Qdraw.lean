/- What l2Draw draws, in plain Lean. No conditions. -/
import Derived.Test.YticdjfieofjcaaaW5Qsends
set_option linter.unusedVariables false
set_option linter.unusedSimpArgs false
set_option linter.unnecessarySimpa false
namespace Go.Own
open Go Go.Proofs

def drawB : Nat → Nat
  | 0 => 1
  | d + 1 => 1 + 3 * (1 + drawB d)
def Drawn (d : Nat) (x : S_impl_Term) : Prop := (x.f0 = 4 → x.f1 = 0 ∧ x.f2 = []) ∧ tsz x ≤ drawB d

theorem drawB_pos (d : Nat) : 1 ≤ drawB d := by cases d <;> simp only [drawB] <;> omega
theorem drawn_mk {d : Nat} {k m : Int} {s : List UInt8} (h : k ≠ 4) : Drawn d (.mk k m s []) := ⟨fun e => absurd e h, by simp only [tsz, tszs]; exact drawB_pos d⟩
theorem tszs_append (a b : List S_impl_Term) : tszs (a ++ b) = tszs a + tszs b := by
  induction a with
  | nil => simp [tszs]
  | cons x r ih => simp only [List.cons_append, tszs, ih]; omega

theorem l2Draw_step (m d : Nat) {code : List Int} {i s : Int} (hl : code.length ≤ 1048576) (h0 : 0 ≤ i) (hm : 4 ≤ m) (hd : d ≤ 3)
    (hc : ∀ {i s : Int}, 0 ≤ i → d ≠ 0 → ∃ (x : S_impl_Term) (i' s' : Int), p_spec_l2Draw m ((d - 1 : Nat) : Int) code i s = some (x.f0, x.f1, x.f2, x.f3, code, i', s') ∧ Drawn (d - 1) x ∧ 0 ≤ i') :
    ∃ (x : S_impl_Term) (i' s' : Int), s_spec_l2Draw m (p_spec_l2Draw m) (d : Int) code i s = some (x.f0, x.f1, x.f2, x.f3, code, i', s') ∧ Drawn d x ∧ 0 ≤ i' := by
  obtain ⟨v, i1, s1, h1, hv0, hv8, hi1⟩ := l1Below_ok m (t := 8) (s := s) hl h0 (by omega) (by omega)
  obtain ⟨w, i2, s2, h2, _, _, hi2⟩ := l1Below_ok m (t := 1000) (s := s1) hl hi1 (by omega) (by omega)
  obtain ⟨a, i3, s3, h3, _, hi3⟩ := l1Int_ok m (l := [0, 1, 2, -1, 7, 1000000000000, -1000000000000, w]) (s := s2) hl hi2 (by simp) (by simp)
  obtain ⟨b, i4, s4, h4, _, hi4⟩ := l1Str_ok m (l := [[111, 107], [115, 116, 111, 112], [97], [116, 114, 117, 101], [97, 100, 100]]) (s := s1) hl hi1 (by simp) (by simp)
  obtain ⟨e, i5, s5, h5, _, _, hi5⟩ := l1Below_ok m (t := 5) (s := s1) hl hi1 (by omega) (by omega)
  obtain ⟨k, i6, s6, h6, hk, hi6⟩ := l1Int_ok m (l := [4, 5]) (s := s1) hl hi1 (by simp) (by simp)
  obtain ⟨q, i7, s7, h7, hq0, hq4, hi7⟩ := l1Below_ok m (t := 4) (s := s6) hl hi6 (by omega) (by omega)
  have hv : v = 0 ∨ v = 1 ∨ v = 2 ∨ v = 3 ∨ v = 4 ∨ v = 5 ∨ v = 6 ∨ v = 7 := by omega
  have tail : ∃ (x : S_impl_Term) (i' s' : Int), ((p_spec_l1Int m ([(4 : Int), (5 : Int)] : List Int) code i1 s1).bind fun c33 => (p_spec_l1Below m (4 : Int) c33.2.1 c33.2.2.1 c33.2.2.2).bind fun c36 => (loopN (p_spec_l2Draw_b1 m (p_spec_l2Draw m) (d : Int)) m (c36.1, c33.1, (0 : Int), ([] : List UInt8), ([] : List S_impl_Term), c36.2.1, c36.2.2.1, c36.2.2.2)).bind fun (_, _, w29, w30, w31, w32, w33, w34, w35) => some (w29, w30, w31, w32, w33, w34, w35)) = some (x.f0, x.f1, x.f2, x.f3, code, i', s') ∧ Drawn d x ∧ 0 ≤ i' := by
    simp only [h6, h7, Option.bind_some]
    have hloop := loopN_of (body := p_spec_l2Draw_b1 m (p_spec_l2Draw m) (d : Int)) (fun j (st : Int × Int × Int × List UInt8 × List S_impl_Term × List Int × Int × Int) => st.1 = (j : Int) ∧ j ≤ 3 ∧ st.2.1 = k ∧ st.2.2.1 = 0 ∧ st.2.2.2.1 = [] ∧ (d ≠ 0 → tszs st.2.2.2.2.1 + j * (1 + drawB (d - 1)) ≤ 3 * (1 + drawB (d - 1))) ∧ (d = 0 → st.2.2.2.2.1 = []) ∧ st.2.2.2.2.2.1 = code ∧ 0 ≤ st.2.2.2.2.2.2.1)
      (fun r => r.2.2.1 = k ∧ r.2.2.2.1 = 0 ∧ r.2.2.2.2.1 = [] ∧ (d ≠ 0 → tszs r.2.2.2.2.2.1 ≤ 3 * (1 + drawB (d - 1))) ∧ (d = 0 → r.2.2.2.2.2.1 = []) ∧ r.2.2.2.2.2.2.1 = code ∧ 0 ≤ r.2.2.2.2.2.2.2.1) (fun j st hst => by
        obtain ⟨v6, w5, w6, w7, w8, w9, w10, w11⟩ := st
        simp only at hst
        obtain ⟨e1, e2, e3, e4, e5, e6, e7, e8, e9⟩ := hst
        subst e1; subst e3; subst e4; subst e5; subst e8
        by_cases hj : (0 : Int) < (j : Int)
        · by_cases hd0 : d = 0
          · right
            have hdn : ¬ (0 : Int) < (d : Int) := by omega
            simp only [p_spec_l2Draw_b1, hj, hdn, decide_true, decide_false, cond_true, cond_false, Option.bind_some]
            exact ⟨_, rfl, rfl, rfl, rfl, fun h => absurd hd0 h, e7, rfl, e9⟩
          · left
            have hdp : (0 : Int) < (d : Int) := by omega
            obtain ⟨x, i', s', g1, g2, g3⟩ := hc (i := w10) (s := w11) e9 hd0
            have e6 := e6 hd0
            have hwd : IntKind.wrap .i64 ((d : Int) - 1) = ((d - 1 : Nat) : Int) := by rw [wrap_i64 (by omega) (by omega)]; omega
            have hlen := tszs_len w8
            have hb : drawB (d - 1) ≤ 200 := by
              have : d = 1 ∨ d = 2 ∨ d = 3 := by omega
              rcases this with rfl | rfl | rfl <;> simp [drawB]
            have hle : w8.length ≤ 700 := by
              have : 3 * (1 + drawB (d - 1)) ≤ 603 := by omega
              have : j * (1 + drawB (d - 1)) ≥ 0 := Nat.zero_le _
              omega
            simp only [p_spec_l2Draw_b1, hj, hdp, decide_true, cond_true, Option.bind_some, hwd, g1]
            rw [app2_of (by simp; omega) (by simp [maxLen]; omega)]
            simp only [Option.bind_some, term_eta]
            obtain ⟨jm, rfl⟩ : ∃ jm, j = jm + 1 := ⟨j - 1, by omega⟩
            refine ⟨_, jm, rfl, by omega, ?_, by omega, rfl, rfl, rfl, fun _ => ?_, fun h => absurd h hd0, rfl, g3⟩
            · simp only; rw [wrap_i64 (by omega) (by omega)]; omega
            · simp only [tszs_append, tszs]
              have h2 := g2.2
              have : (jm + 1) * (1 + drawB (d - 1)) = jm * (1 + drawB (d - 1)) + (1 + drawB (d - 1)) := by rw [Nat.add_mul, Nat.one_mul]
              omega
        · right
          simp only [p_spec_l2Draw_b1, hj, decide_false, cond_false, Option.bind_some]
          refine ⟨_, rfl, rfl, rfl, rfl, fun h => ?_, e7, rfl, e9⟩
          have := e6 h
          simp only
          omega) (n := m) (m := q.toNat) (s := (q, k, 0, [], [], code, i7, s7)) ⟨by simp only; omega, by omega, rfl, rfl, rfl, fun _ => by
            simp only [tszs, Nat.zero_add]
            exact Nat.mul_le_mul_right _ (by omega), fun _ => rfl, rfl, hi7⟩ (by omega)
    obtain ⟨⟨r0, r1, r2, r3, r4, r5, r6, r7, r8⟩, g1, g2⟩ := hloop
    simp only at g2
    obtain ⟨rfl, rfl, rfl, f4, f5, rfl, f7⟩ := g2
    rw [g1]
    refine ⟨.mk r2 0 [] r5, r7, r8, rfl, ⟨fun _ => ⟨rfl, rfl⟩, ?_⟩, f7⟩
    simp only [tsz]
    cases d with
    | zero => rw [f5 rfl]; simp [tszs, drawB]
    | succ d =>
      have := f4 (by omega)
      simp only [Nat.add_sub_cancel] at this
      simp only [drawB]
      omega
  unfold s_spec_l2Draw
  simp only [h1, Option.bind_some]
  rcases hv with rfl | rfl | rfl | rfl | rfl | rfl | rfl | rfl
  · simp only [decide_true, cond_true, h2, h3, Option.bind_some]
    exact ⟨.mk 1 a [] [], i3, s3, rfl, drawn_mk (by omega), hi3⟩
  · simp only [show ((1 : Int) = 0) = False by simp, decide_true, decide_false, cond_true, cond_false, h2, h3, Option.bind_some]
    exact ⟨.mk 1 a [] [], i3, s3, rfl, drawn_mk (by omega), hi3⟩
  · simp only [show ((2 : Int) = 0) = False by simp, show ((2 : Int) = 1) = False by simp, decide_true, decide_false, cond_true, cond_false, h2, h3, Option.bind_some]
    exact ⟨.mk 1 a [] [], i3, s3, rfl, drawn_mk (by omega), hi3⟩
  · simp only [show ((3 : Int) = 0) = False by simp, show ((3 : Int) = 1) = False by simp, show ((3 : Int) = 2) = False by simp, decide_true, decide_false, cond_true, cond_false, h4, Option.bind_some]
    exact ⟨.mk 2 0 b [], i4, s4, rfl, drawn_mk (by omega), hi4⟩
  · simp only [show ((4 : Int) = 0) = False by simp, show ((4 : Int) = 1) = False by simp, show ((4 : Int) = 2) = False by simp, show ((4 : Int) = 3) = False by simp, decide_true, decide_false, cond_true, cond_false, h4, Option.bind_some]
    exact ⟨.mk 2 0 b [], i4, s4, rfl, drawn_mk (by omega), hi4⟩
  · simp only [show ((5 : Int) = 0) = False by simp, show ((5 : Int) = 1) = False by simp, show ((5 : Int) = 2) = False by simp, show ((5 : Int) = 3) = False by simp, show ((5 : Int) = 4) = False by simp, decide_true, decide_false, cond_true, cond_false, h5, Option.bind_some]
    exact ⟨.mk 3 e [] [], i5, s5, rfl, drawn_mk (by omega), hi5⟩
  · simp only [show ((6 : Int) = 0) = False by simp, show ((6 : Int) = 1) = False by simp, show ((6 : Int) = 2) = False by simp, show ((6 : Int) = 3) = False by simp, show ((6 : Int) = 4) = False by simp, show ((6 : Int) = 5) = False by simp, decide_false, cond_false]
    exact tail
  · simp only [show ((7 : Int) = 0) = False by simp, show ((7 : Int) = 1) = False by simp, show ((7 : Int) = 2) = False by simp, show ((7 : Int) = 3) = False by simp, show ((7 : Int) = 4) = False by simp, show ((7 : Int) = 5) = False by simp, decide_false, cond_false]
    exact tail

theorem l2Draw_ok : ∀ (d n : Nat) {code : List Int} {i s : Int}, code.length ≤ 1048576 → 0 ≤ i → d + 5 ≤ n → d ≤ 3 → ∃ (x : S_impl_Term) (i' s' : Int), p_spec_l2Draw n (d : Int) code i s = some (x.f0, x.f1, x.f2, x.f3, code, i', s') ∧ Drawn d x ∧ 0 ≤ i' := by
  intro d
  induction d with
  | zero =>
    intro n code i s hl h0 hn _
    obtain ⟨m, rfl⟩ : ∃ m, n = m + 1 := ⟨n - 1, by omega⟩
    rw [p_spec_l2Draw_succ]
    exact l2Draw_step m 0 hl h0 (by omega) (by omega) (fun _ h => absurd rfl h)
  | succ d ih =>
    intro n code i s hl h0 hn hd
    obtain ⟨m, rfl⟩ : ∃ m, n = m + 1 := ⟨n - 1, by omega⟩
    rw [p_spec_l2Draw_succ]
    exact l2Draw_step m (d + 1) hl h0 (by omega) hd (fun h _ => ih m hl h (by omega) (by omega))
end Go.Own
