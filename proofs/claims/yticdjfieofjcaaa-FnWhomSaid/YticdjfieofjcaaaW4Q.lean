/- The law of FnWhom, in plain Lean. -/
import Derived.Test.YticdjfieofjcaaaW4W
set_option linter.unusedVariables false
set_option linter.unusedSimpArgs false
set_option linter.unnecessarySimpa false
namespace Go.Own
open Go Go.Proofs

theorem p104_ok (n : Nat) (code : List Int) (i s : Int) (hl : code.length ≤ 1048576) (h0 : 0 ≤ i) : ∃ v i' s', p104 n code i s = some (v, code, i', s') ∧ 0 ≤ v ∧ v ≤ 255 ∧ 0 ≤ i' := by
  unfold p104
  by_cases h : i < code.length
  · obtain ⟨a, ha, _⟩ := ix_of h0 h
    simp only [h, decide_true, cond_true, ha, Option.bind_some]
    refine ⟨_, _, _, rfl, (bits_and_le _ 255 (by decide)).1, (bits_and_le _ 255 (by decide)).2, ?_⟩
    rw [wrap_i64 (by omega) (by omega)]; omega
  · simp only [h, decide_false, cond_false]
    exact ⟨_, _, _, rfl, (bits_and_le _ 255 (by decide)).1, (bits_and_le _ 255 (by decide)).2, h0⟩

theorem p59_ok (n : Nat) (t : Int) (code : List Int) (i s : Int) (hl : code.length ≤ 1048576) (h0 : 0 ≤ i) (ht : 0 < t) (ht2 : t ≤ 256) : ∃ v i' s', p59 n t code i s = some (v, code, i', s') ∧ 0 ≤ v ∧ v < t ∧ 0 ≤ i' := by
  obtain ⟨v, i', s', h1, h2, h3, h4⟩ := p104_ok n code i s hl h0
  have e1 : ¬ t ≤ 0 := by omega
  have e2 : ¬ t = 0 := by omega
  unfold p59
  simp only [e1, e2, ht2, decide_true, decide_false, cond_true, cond_false, h1, Option.bind_some, ck, Bool.not_false]
  exact ⟨_, _, _, rfl, Int.tmod_nonneg _ h2, Int.tmod_lt_of_pos _ ht, h4⟩

theorem p60_ok (n : Nat) (l code : List Int) (i s : Int) (hl : code.length ≤ 1048576) (h0 : 0 ≤ i) (ht : 0 < l.length) (ht2 : l.length ≤ 256) : ∃ v i' s', p60 n l code i s = some (v, code, i', s') ∧ v ∈ l ∧ 0 ≤ i' := by
  obtain ⟨v, i', s', h1, h2, h3, h4⟩ := p59_ok n l.length code i s hl h0 (by omega) (by omega)
  obtain ⟨a, ha, hm⟩ := ix_of (l := l) h2 h3
  unfold p60
  simp only [h1, Option.bind_some, ha]
  exact ⟨_, _, _, rfl, hm, h4⟩

theorem p58_ok (code : List Int) : ∃ s, p58 5000 code = some (code, 0, s) := by
  have h := loopN_of (body := p58_b1 5000 code) (fun m q => 0 ≤ q.2 ∧ q.2 ≤ 4000 ∧ m = (4000 - q.2).toNat) (fun _ => True) (fun m q hq => by
    obtain ⟨h1, h2, h3⟩ := hq
    obtain ⟨a, i⟩ := q
    simp only at h1 h2 h3
    unfold p58_b1
    by_cases c1 : i < code.length
    · by_cases c2 : i < 4000
      · obtain ⟨b, hb, _⟩ := ix_of h1 c1
        left
        simp only [c1, c2, decide_true, cond_true, Option.bind_some, hb]
        refine ⟨_, _, rfl, ?_, ?_, ?_, rfl⟩
        · simp only [wrap_i64 (n := i + 1) (by omega) (by omega)]; omega
        · simp only [wrap_i64 (n := i + 1) (by omega) (by omega)]; omega
        · simp only [wrap_i64 (n := i + 1) (by omega) (by omega)]; omega
      · right
        simp only [c1, c2, decide_true, decide_false, cond_true, cond_false, Option.bind_some]
        exact ⟨_, rfl, trivial⟩
    · right
      simp only [c1, decide_false, cond_false, Option.bind_some]
      exact ⟨_, rfl, trivial⟩) (n := 5000) (s := ((IntKind.wrap .i64 ((375375 : Int) + (code.length : Int))), (0 : Int))) ⟨Int.le_refl _, by omega, rfl⟩ (by omega)
  obtain ⟨r, h1, _⟩ := h
  unfold p58
  rw [h1]
  exact ⟨_, rfl⟩

theorem p19_ok (code : List Int) (hl : code.length ≤ 1048576) : ∃ way n i, p19 5000 code = some (way, n, i) ∧ way ∈ ([0, 1, 2, 3, 4] : List Int) ∧ n ∈ ([3, 1, 5, 0, -1] : List Int) ∧ i ∈ ([0, 1, 2, 4, -1] : List Int) := by
  obtain ⟨s, h1⟩ := p58_ok code
  obtain ⟨v, i1, s1, h2, h3, h4, h5⟩ := p59_ok 5000 5 code 0 s hl (by omega) (by omega) (by omega)
  obtain ⟨n, i2, s2, h6, h7, h8⟩ := p60_ok 5000 [3, 1, 5, 0, -1] code i1 s1 hl h5 (by simp) (by simp)
  obtain ⟨i, i3, s3, h9, h10, _⟩ := p60_ok 5000 [0, 1, 2, 4, -1] code i2 s2 hl h8 (by simp) (by simp)
  unfold p19
  simp only [h1, h2, h6, h9, Option.bind_some]
  refine ⟨_, _, _, rfl, ?_, h7, h10⟩
  simp only [List.mem_cons, List.not_mem_nil, or_false]
  omega

/-- What comes behind the draw. -/
def tail4 (n : Nat) (c13_3 : Int × Int × Int) : Option Bool := (p14 n c13_3.1 c13_3.2.1 c13_3.2.2).bind fun c20_4 => (p13 n c13_3.1 c13_3.2.1 c13_3.2.2).bind fun c26_5 => bif !decide ((c20_4.length : Int) = (c26_5.length : Int)) then some false else (bif decide (c13_3.2.2 < (0 : Int)) then some true else bif decide (c13_3.2.1 ≤ c13_3.2.2) then some true else bif decide ((100 : Int) < c13_3.2.1) then some true else bif decide (c13_3.1 < (1 : Int)) then some true else some (decide ((3 : Int) < c13_3.1))).bind fun v47_7 => bif v47_7 then some (decide ((c20_4.length : Int) = (0 : Int))) else (loopN (p4_b1 n c13_3 c20_4) n (false, (0 : Int))).bind fun q => (match q with | .inl v2_15 => some v2_15 | .inr (v7_16, v8_17, v54_18) => (bif v7_16 then bif !decide (c13_3.1 = (1 : Int)) then bif !decide (c13_3.1 = (2 : Int)) then bif !decide (c13_3.1 = (3 : Int)) then some true else some (decide ((c20_4.length : Int) = (IntKind.wrap .i64 (c13_3.2.1 - c13_3.2.2)))) else bif decide ((c20_4.length : Int) = c13_3.2.1) then bif !decide (c13_3.1 = (3 : Int)) then some true else some (decide ((c20_4.length : Int) = (IntKind.wrap .i64 (c13_3.2.1 - c13_3.2.2)))) else some false else bif decide ((c20_4.length : Int) = (1 : Int)) then bif !decide (c13_3.1 = (2 : Int)) then bif !decide (c13_3.1 = (3 : Int)) then some true else some (decide ((c20_4.length : Int) = (IntKind.wrap .i64 (c13_3.2.1 - c13_3.2.2)))) else bif decide ((c20_4.length : Int) = c13_3.2.1) then bif !decide (c13_3.1 = (3 : Int)) then some true else some (decide ((c20_4.length : Int) = (IntKind.wrap .i64 (c13_3.2.1 - c13_3.2.2)))) else some false else some false else some false).bind fun v2_42 => some v2_42)
theorem tail4_ok : ∀ way ∈ ([0, 1, 2, 3, 4] : List Int), ∀ n ∈ ([3, 1, 5, 0, -1] : List Int), ∀ i ∈ ([0, 1, 2, 4, -1] : List Int), tail4 5000 (way, n, i) = some true := by decide +kernel

theorem p4_ok (code : List Int) : p4 5000 code = some true := by
  have e : p4 5000 code = (p18 5000 code).bind fun c10_1 => bif c10_1 then some true else (p19 5000 code).bind (tail4 5000) := rfl
  rw [e]
  by_cases h : (1048576 : Int) < code.length
  · simp only [p18, h, decide_true, Option.bind_some, cond_true]
  · obtain ⟨way, n, i, h1, h2, h3, h4⟩ := p19_ok code (by omega)
    simp only [p18, h, decide_false, Option.bind_some, cond_false, h1]
    exact tail4_ok way h2 n h3 i h4
end Go.Own
