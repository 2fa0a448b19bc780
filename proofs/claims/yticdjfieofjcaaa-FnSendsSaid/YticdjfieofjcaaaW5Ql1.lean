/- What the drawing functions answer, in plain Lean. No conditions. -/
import Derived.Test.YticdjfieofjcaaaW5W
set_option linter.unusedVariables false
set_option linter.unusedSimpArgs false
set_option linter.unnecessarySimpa false
namespace Go.Own
open Go Go.Proofs

theorem l1Byte_ok (n : Nat) {code : List Int} {i s : Int} (hl : code.length ≤ 1048576) (h0 : 0 ≤ i) : ∃ v i' s', p_spec_l1Byte n code i s = some (v, code, i', s') ∧ 0 ≤ v ∧ v ≤ 255 ∧ 0 ≤ i' := by
  unfold p_spec_l1Byte
  by_cases h : i < code.length
  · obtain ⟨a, ha, _⟩ := ix_of h0 h
    simp only [h, decide_true, cond_true, ha, Option.bind_some]
    refine ⟨_, _, _, rfl, (bits_and_le _ 255 (by decide)).1, (bits_and_le _ 255 (by decide)).2, ?_⟩
    rw [wrap_i64 (by omega) (by omega)]; omega
  · simp only [h, decide_false, cond_false]
    exact ⟨_, _, _, rfl, (bits_and_le _ 255 (by decide)).1, (bits_and_le _ 255 (by decide)).2, h0⟩

theorem l1Below_ok (n : Nat) {t : Int} {code : List Int} {i s : Int} (hl : code.length ≤ 1048576) (h0 : 0 ≤ i) (ht : 0 < t) (ht2 : t < 9223372036854775808) : ∃ v i' s', p_spec_l1Below n t code i s = some (v, code, i', s') ∧ 0 ≤ v ∧ v < t ∧ 0 ≤ i' := by
  obtain ⟨v, i', s', h1, h2, h3, h4⟩ := l1Byte_ok n (s := s) hl h0
  have e1 : ¬ t ≤ 0 := by omega
  have e2 : ¬ t = 0 := by omega
  unfold p_spec_l1Below
  by_cases c : t ≤ 256
  · simp only [e1, e2, c, decide_true, decide_false, cond_true, cond_false, h1, Option.bind_some, ck, Bool.not_false]
    exact ⟨_, _, _, rfl, Int.tmod_nonneg _ h2, Int.tmod_lt_of_pos _ ht, h4⟩
  · obtain ⟨v2, i2, s2, k1, k2, k3, k4⟩ := l1Byte_ok n (s := s') hl h4
    obtain ⟨v3, i3, s3, m1, m2, m3, m4⟩ := l1Byte_ok n (s := s2) hl k4
    simp only [e1, e2, c, decide_false, cond_true, cond_false, h1, k1, m1, Option.bind_some, ck, Bool.not_false]
    refine ⟨_, _, _, rfl, Int.tmod_nonneg _ ?_, Int.tmod_lt_of_pos _ ht, m4⟩
    rw [wrap_i64 (n := v * 65536) (by omega) (by omega), wrap_i64 (n := v2 * 256) (by omega) (by omega), wrap_i64 (n := v * 65536 + v2 * 256) (by omega) (by omega), wrap_i64 (by omega) (by omega)]
    omega

theorem l1Once_ok (n : Nat) {t : Int} {code : List Int} {i s : Int} (hl : code.length ≤ 1048576) (h0 : 0 ≤ i) (ht : 0 < t) (ht2 : t < 9223372036854775808) : ∃ b i' s', p_spec_l1Once n t code i s = some (b, code, i', s') ∧ 0 ≤ i' := by
  obtain ⟨v, i', s', h1, _, _, h4⟩ := l1Below_ok n (s := s) hl h0 ht ht2
  unfold p_spec_l1Once
  simp only [h1, Option.bind_some]
  exact ⟨_, _, _, rfl, h4⟩

theorem l1Int_ok (n : Nat) {l code : List Int} {i s : Int} (hl : code.length ≤ 1048576) (h0 : 0 ≤ i) (ht : 0 < l.length) (ht2 : l.length ≤ 1048576) : ∃ v i' s', p_spec_l1Int n l code i s = some (v, code, i', s') ∧ v ∈ l ∧ 0 ≤ i' := by
  obtain ⟨v, i', s', h1, h2, h3, h4⟩ := l1Below_ok n (s := s) hl h0 (show (0 : Int) < l.length by omega) (by omega)
  obtain ⟨a, ha, hm⟩ := ix_of (l := l) h2 h3
  unfold p_spec_l1Int
  simp only [h1, Option.bind_some, ha]
  exact ⟨_, _, _, rfl, hm, h4⟩

theorem l1Str_ok (n : Nat) {l : List (List UInt8)} {code : List Int} {i s : Int} (hl : code.length ≤ 1048576) (h0 : 0 ≤ i) (ht : 0 < l.length) (ht2 : l.length ≤ 1048576) : ∃ v i' s', p_spec_l1Str n l code i s = some (v, code, i', s') ∧ v ∈ l ∧ 0 ≤ i' := by
  obtain ⟨v, i', s', h1, h2, h3, h4⟩ := l1Below_ok n (s := s) hl h0 (show (0 : Int) < l.length by omega) (by omega)
  obtain ⟨a, ha, hm⟩ := ix_of (l := l) h2 h3
  unfold p_spec_l1Str
  simp only [h1, Option.bind_some, ha]
  exact ⟨_, _, _, rfl, hm, h4⟩

theorem l1New_ok {n : Nat} (hn : 4001 ≤ n) (code : List Int) : ∃ s, p_spec_l1New n code = some (code, 0, s) := by
  have h := loopN_of (body := p_spec_l1New_b1 n code) (fun m q => 0 ≤ q.2 ∧ q.2 ≤ 4000 ∧ m = (4000 - q.2).toNat) (fun _ => True) (fun m q hq => by
    obtain ⟨h1, h2, h3⟩ := hq
    obtain ⟨a, i⟩ := q
    simp only at h1 h2 h3
    unfold p_spec_l1New_b1
    by_cases c1 : i < code.length
    · by_cases c2 : i < 4000
      · obtain ⟨b, hb, _⟩ := ix_of h1 c1
        left
        simp only [c1, c2, decide_true, cond_true, Option.bind_some, hb]
        refine ⟨_, _, rfl, ?_, ?_, ?_, rfl⟩
        · simp only [wrap_i64 (n := i + 1) (by omega) (by omega)]; omega
        · simp only [wrap_i64 (n := i + 1) (by omega) (by omega)]; omega
        · simp only [wrap_i64 (n := i + 1) (by omega) (by omega)]; omega
      · right
        simp only [c1, c2, decide_true, decide_false, cond_true, cond_false, Option.bind_some]
        exact ⟨_, rfl, trivial⟩
    · right
      simp only [c1, decide_false, cond_false, Option.bind_some]
      exact ⟨_, rfl, trivial⟩) (n := n) (s := ((IntKind.wrap .i64 ((375375 : Int) + (code.length : Int))), (0 : Int))) ⟨Int.le_refl _, by omega, rfl⟩ (by omega)
  obtain ⟨r, h1, _⟩ := h
  unfold p_spec_l1New
  rw [h1]
  exact ⟨_, rfl⟩
end Go.Own
