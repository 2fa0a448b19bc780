/- The law FnExactNewestOf, in plain Lean. No conditions. -/
import Derived.Test.YticdjfieofjcaaaW8F8
set_option linter.unusedVariables false
set_option linter.unusedSimpArgs false
set_option linter.unnecessarySimpa false
namespace Go.Own.Q
open Go Go.Proofs

def entP (s : List UInt8) (e : S_impl_Entry) : Bool := decide (e.f0 = s)
def entAt (l : List S_impl_Entry) (s : List UInt8) : Int := fidx (entP s) 0 l
theorem l12At_ok (n : Nat) (l : List S_impl_Entry) (s : List UInt8) (h : l.length < n) (hn : n < 4611686018427387904) : p_spec_l12At n l s = some (entAt l s) := by
  unfold p_spec_l12At
  have e := loop_find (body := p_spec_l12At_b1 n l s) l (entP s) (fun i => (i : Int)) (fun i => .inl (i : Int)) (.inr ((l.length : Int), false)) (fun i a ha => by
    have hi := lt_len ha
    simp only [p_spec_l12At_b1, lt_int ha, cond_true, ix_nat, ha, Option.bind_some, wrap_succ (show i < 4611686018427387904 by omega)]
    unfold entP
    cases decide (a.f0 = s) <;> rfl) (by simp only [p_spec_l12At_b1, not_lt_int, cond_false]) h
  have e : loopN (p_spec_l12At_b1 n l s) n (0 : Int) = _ := e
  rw [e]
  unfold entAt
  rcases fidx_get (entP s) l 0 with ⟨h1, _⟩ | ⟨k, a, h1, _⟩
  · rw [h1]; rfl
  · rw [h1, decide_eq_false (by omega)]
    simp only [cond_false, Option.bind_some, Int.toNat_natCast]
theorem entryAt_ok (n : Nat) (l : List S_impl_Entry) (s : List UInt8) (h : l.length < n) (hn : n < 4611686018427387904) : p_impl_entryAt n l s = some (entAt l s) := by
  unfold p_impl_entryAt p_slices_IndexFunc_e4d6
  have e := loop_find (body := p_slices_IndexFunc_e4d6_b1 n l) l (entP s) (fun i => ((i : Int), s)) (fun i => .inl ((i : Int), s)) (.inr ((l.length : Int), false, s)) (fun i a ha => by
    have hi := lt_len ha
    simp only [p_slices_IndexFunc_e4d6_b1, p_impl_entryAt_1, lt_int ha, cond_true, ix_nat, ha, Option.bind_some, wrap_succ (show i < 4611686018427387904 by omega)]
    unfold entP
    cases decide (a.f0 = s) <;> rfl) (by simp only [p_slices_IndexFunc_e4d6_b1, not_lt_int, cond_false]) h
  have e : loopN (p_slices_IndexFunc_e4d6_b1 n l) n ((0 : Int), s) = _ := e
  rw [e]
  unfold entAt
  rcases fidx_get (entP s) l 0 with ⟨h1, _⟩ | ⟨k, a, h1, _⟩
  · rw [h1]; rfl
  · rw [h1, decide_eq_false (by omega)]
    simp only [cond_false, Option.bind_some, Int.toNat_natCast]
theorem NewestOf_ok (n : Nat) (l : List S_impl_Entry) (s : List UInt8) (h : l.length < n) (hn : n < 4611686018427387904) : ∃ v, p_spec_NewestOf n l s = some v ∧ p_impl_NewestOf n l s = some v := by
  unfold p_spec_NewestOf p_impl_NewestOf
  rw [l12At_ok n l s h hn, entryAt_ok n l s h hn]
  simp only [Option.bind_some]
  unfold entAt
  rcases fidx_get (entP s) l 0 with ⟨h1, _⟩ | ⟨k, a, h1, h2, _⟩
  · rw [h1]; exact ⟨_, rfl, rfl⟩
  · rw [h1, decide_eq_false (by omega)]
    simp only [cond_false, ix_nat, Nat.zero_add, h2, Option.bind_some]
    exact ⟨_, rfl, rfl⟩
theorem law (l : List S_laws_Entry) (s : List UInt8) (ho : l.length ≤ maxLen ∧ ∀ a ∈ l, okEntry a) (hs : s.length ≤ maxLen) : ∃ n, p_laws_FnExactNewestOf n l s = some true := by
  refine ⟨dl dEntry l + 1, ?_⟩
  generalize hN : dl dEntry l + 1 = n
  unfold p_laws_FnExactNewestOf
  cases decide ((1048576 : Int) < (s.length : Int)) with
  | true => rfl
  | false =>
    rw [cond_false, szEntryS_ok n l 1048576 (by omega) ho.1 ho.2 (by omega) (by omega)]
    by_cases hz : (zl zEntry l : Int) ≤ 1048576
    · have hd := dl_le (C := 100) dEntry_z (by omega) (by omega) l
      have hl := dl_len dEntry l
      rw [if_pos hz]
      simp only [Option.bind_some]
      rw [decide_eq_false (by omega), cond_false]
      rw [toEntryS_ok n l (by omega) (by omega)]
      simp only [Option.bind_some]
      have hc : (cEntrys l).length = l.length := List.length_map _
      obtain ⟨v, h1, h2⟩ := NewestOf_ok n (cEntrys l) s (by omega) (by omega)
      rw [h1, h2]
      simp only [Option.bind_some, decide_true, Bool.not_true, cond_false]
      rw [eqEntryS_ok n _ (by rw [dl_cEntry]; omega) (by omega)]
      rfl
    · rw [if_neg hz]; rfl
end Go.Own.Q
