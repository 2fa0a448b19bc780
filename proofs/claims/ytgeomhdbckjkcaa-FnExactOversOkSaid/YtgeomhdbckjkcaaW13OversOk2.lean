/- The law FnExactOversOk, in plain Lean: the other side. No conditions. -/
import Derived.Test.YtgeomhdbckjkcaaW13OversOk
set_option linter.unusedVariables false
set_option linter.unusedSimpArgs false
set_option linter.unnecessarySimpa false
namespace Go.Own.Q
open Go Go.Proofs
theorem sub_to {α : Type} {l : List α} {i : Nat} (h : i ≤ l.length) : sub l none (some (i : Int)) = some (l.take i) := by
  unfold sub bnd
  rw [if_pos ⟨by simp, by simp only [Option.getD_none, Option.getD_some]; omega, by simp only [Option.getD_some]; omega⟩]
  simp
theorem subs_in (n : Nat) (l : List S_impl_Over) (m i : Nat) {o : S_impl_Over} (ha : l[i]? = some o) (c : Nat) (hb : c + o.f3.length < 4611686018427387904) (hn : o.f3.length < n) : loopN (p_spec_l14Subs_b2 n l (m : Int) (i : Int)) n ((c : Int), (0 : Int)) = some (((c + o.f3.countP (subAt m) : Nat) : Int), (o.f3.length : Int), false) := by
  have h := loop_for (body := p_spec_l14Subs_b2 n l (m : Int) (i : Int)) (fun j => (((c + (o.f3.take j).countP (subAt m) : Nat) : Int), (j : Int))) (len := o.f3.length) (r := (((c + o.f3.countP (subAt m) : Nat) : Int), (o.f3.length : Int), false)) (fun j hj => by
    have hk : o.f3[j]? = some o.f3[j] := List.getElem?_eq_getElem hj
    generalize o.f3[j] = k at hk
    have hc : (o.f3.take j).countP (subAt m) ≤ j := by
      have := List.countP_le_length (p := subAt m) (l := o.f3.take j)
      rw [List.length_take] at this; omega
    have e : (o.f3.take (j + 1)).countP (subAt m) = (o.f3.take j).countP (subAt m) + if subAt m k = true then 1 else 0 := by
      rw [← take_succ' hk, List.countP_append, List.countP_singleton]
    simp only [p_spec_l14Subs_b2, ix_nat, ha, Option.bind_some, lt_int hk, cond_true, hk, e, wrap_succ (show j < 4611686018427387904 by omega), wrap_succ (show c + (o.f3.take j).countP (subAt m) < 4611686018427387904 by omega)]
    by_cases q : k.f6 = (m : Int)
    · have q2 : subAt m k = true := decide_eq_true q
      rw [decide_eq_true q, if_pos q2]
      rfl
    · have q2 : ¬ subAt m k = true := by rw [subAt, decide_eq_false q]; simp
      rw [decide_eq_false q, if_neg q2]
      rfl) (by simp only [p_spec_l14Subs_b2, ix_nat, ha, Option.bind_some, not_lt_int, cond_false, List.take_length]) hn
  simpa using h
theorem flat_take {l : List S_impl_Over} {i : Nat} {o : S_impl_Over} (ha : l[i]? = some o) : flat (l.take (i + 1)) = flat (l.take i) ++ o.f3 := by
  rw [← take_succ' ha, flat_app]
  congr 1
  exact (List.flatMap_cons ..).trans (List.append_nil _)
theorem flat_sum {l : List S_impl_Over} {i : Nat} {o : S_impl_Over} (ha : l[i]? = some o) : (flat (l.take i)).length + o.f3.length ≤ (flat l).length := by
  rw [← List.length_append, ← flat_take ha]
  have : flat l = flat (l.take (i + 1)) ++ flat (l.drop (i + 1)) := by rw [← flat_app, List.take_append_drop]
  rw [this, List.length_append]; omega
theorem l14Subs_ok (n : Nat) (l : List S_impl_Over) (m : Nat) (hw : dl wOver l < n) (hn : n ≤ 1099511627776) : p_spec_l14Subs n l (m : Int) = some (((flat l).countP (subAt m) : Nat) : Int) := by
  have hfl := flat_len l
  have hll := dl_len wOver l
  have h := loop_for (body := p_spec_l14Subs_b1 n l (m : Int)) (fun i => ((((flat (l.take i)).countP (subAt m) : Nat) : Int), (i : Int))) (len := l.length) (r := ((((flat l).countP (subAt m) : Nat) : Int), (l.length : Int), false)) (fun i hi => by
    have ha : l[i]? = some l[i] := List.getElem?_eq_getElem hi
    generalize l[i] = o at ha
    have hs := flat_sum ha
    have hc := List.countP_le_length (p := subAt m) (l := flat (l.take i))
    simp only [p_spec_l14Subs_b1, lt_int ha, cond_true, subs_in n l m i ha _ (show (flat (l.take i)).countP (subAt m) + o.f3.length < 4611686018427387904 by omega) (by omega), Option.bind_some, wrap_succ (show i < 4611686018427387904 by omega), flat_take ha, List.countP_append]) (by simp only [p_spec_l14Subs_b1, not_lt_int, cond_false, List.take_length]) (n := n) (by omega)
  unfold p_spec_l14Subs
  refine (congrArg (fun q => Option.bind q _) h).trans ?_
  rfl
theorem names_in (n : Nat) (l : List S_impl_Over) (i : Nat) {o : S_impl_Over} (ha : l[i]? = some o) (P : List S_impl_Kid) (hb : P.length + o.f3.length ≤ 1099511627776) (hn : o.f3.length < n) : loopN (p_spec_l14Names_b2 n l (i : Int)) n (names P, (0 : Int)) = some (names (P ++ o.f3), (o.f3.length : Int), false) := by
  have h := loop_for (body := p_spec_l14Names_b2 n l (i : Int)) (fun j => (names (P ++ o.f3.take j), (j : Int))) (len := o.f3.length) (r := (names (P ++ o.f3), (o.f3.length : Int), false)) (fun j hj => by
    have hk : o.f3[j]? = some o.f3[j] := List.getElem?_eq_getElem hj
    generalize o.f3[j] = k at hk
    have hap : app2 16 (names (P ++ o.f3.take j)) [k.f0] = some (names (P ++ o.f3.take (j + 1))) := by
      rw [← take_succ' hk, ← List.append_assoc, names_app (P ++ _)]
      have hl : (P ++ o.f3.take j).length ≤ P.length + j := by rw [List.length_append, List.length_take]; omega
      exact app2_of (by rw [names_len]; simp only [List.length_singleton]; omega) (by rw [names_len]; simp only [List.length_singleton, maxLen]; omega)
    simp only [p_spec_l14Names_b2, ix_nat, ha, Option.bind_some, lt_int hk, cond_true, hk, hap, wrap_succ (show j < 4611686018427387904 by omega)]) (by simp only [p_spec_l14Names_b2, ix_nat, ha, Option.bind_some, not_lt_int, cond_false, List.take_length]) hn
  simpa using h
theorem l14Names_ok (n : Nat) (l : List S_impl_Over) (hw : dl wOver l < n) (hn : n ≤ 1099511627776) : p_spec_l14Names n l = some (names (flat l)) := by
  have hfl := flat_len l
  have hll := dl_len wOver l
  have h := loop_for (body := p_spec_l14Names_b1 n l) (fun i => (names (flat (l.take i)), (i : Int))) (len := l.length) (r := (names (flat l), (l.length : Int), false)) (fun i hi => by
    have ha : l[i]? = some l[i] := List.getElem?_eq_getElem hi
    generalize l[i] = o at ha
    have hs := flat_sum ha
    simp only [p_spec_l14Names_b1, lt_int ha, cond_true, names_in n l i ha _ (show (flat (l.take i)).length + o.f3.length ≤ 1099511627776 by omega) (by omega), Option.bind_some, wrap_succ (show i < 4611686018427387904 by omega), flat_take ha]) (by simp only [p_spec_l14Names_b1, not_lt_int, cond_false, List.take_length]) (n := n) (by omega)
  unfold p_spec_l14Names
  refine (congrArg (fun q => Option.bind q _) h).trans ?_
  rfl
theorem l4Has_ok (n : Nat) (l : List (List UInt8)) (s : List UInt8) (hn : l.length < n) (h2 : n < 4611686018427387904) : p_spec_l4Has n l s = some (decide (s ∈ l)) := by
  unfold p_spec_l4Has
  have e := loop_find (body := p_spec_l4Has_b1 n l s) l (fun a => decide (a = s)) (fun i => (i : Int)) (fun i => Sum.inl true) (Sum.inr ((l.length : Int), false)) (fun i a ha => by
    have hi := lt_len ha
    simp only [p_spec_l4Has_b1, lt_int ha, cond_true, ix_nat, ha, Option.bind_some, wrap_succ (show i < 4611686018427387904 by omega)]
    cases decide (a = s) <;> rfl) (by simp only [p_spec_l4Has_b1, not_lt_int, cond_false]) hn
  refine (congrArg (fun q => Option.bind q _) e).trans ?_
  rcases fidx_get (fun a => decide (a = s)) l 0 with ⟨h, h1⟩ | ⟨k, a, h, h1, h3, _⟩
  · rw [h, decide_eq_true (show (-1 : Int) < 0 by omega), decide_eq_false (show ¬ s ∈ l from fun hm => by have := h1 s hm; simp at this)]; rfl
  · simp only [decide_eq_true_eq] at h3
    subst h3
    rw [h, decide_eq_false (by omega), decide_eq_true (List.mem_of_getElem? h1)]
    rfl
theorem l4Once_ok (n : Nat) (l : List (List UInt8)) (hn : l.length < n) (h2 : n < 4611686018427387904) : p_spec_l4Once n l = some (once l) := by
  unfold p_spec_l4Once
  rw [loop_okI l (fun i a => !(decide (a ∈ l.take i))) (fun i a ha => by
    have hi := lt_len ha
    simp only [p_spec_l4Once_b1, lt_int ha, cond_true, ix_nat, ha, Option.bind_some, wrap_succ (show i < 4611686018427387904 by omega), sub_to (show i ≤ l.length by omega), l4Has_ok n (l.take i) a (by rw [List.length_take]; omega) h2]
    cases decide (a ∈ l.take i) <;> rfl) (by simp only [p_spec_l4Once_b1, not_lt_int, cond_false]) hn]
  unfold once
  cases allI (fun i a => !(decide (a ∈ l.take i))) 0 l <;> rfl
/-- What both say. -/
def oversOk (l : List S_impl_Over) : Bool :=
  (decide (1 ≤ (l.length : Int)) && decide ((l.length : Int) ≤ 8)) && (allI (fun i o => overX o && o.f3.all (rng l.length i)) 0 l && (once (names (flat l)) && allI (fun i c => decide (c = (1 : Int)) == decide (0 < i)) 0 (kcnt (flat l) l.length)))
theorem impl_OversOk_ok (n : Nat) (l : List S_impl_Over) (hw : dl wOver l < n) (hn : n ≤ 1099511627776) : p_impl_OversOk n l = some (oversOk l) := by
  have hll := dl_len wOver l
  unfold p_impl_OversOk oversOk
  have hc : decide (0 ≤ (l.length : Int) ∧ (l.length : Int) ≤ maxLen ∧ 8 * (l.length : Int) ≤ 281474976710656) = true := decide_eq_true ⟨by omega, by simp only [maxLen]; omega, by omega⟩
  have h0 := outer_ok n l hw hn l 0 n rfl (by omega) (by omega)
  have e0 : kcnt (flat (l.take 0)) l.length = List.replicate (Int.toNat (l.length : Int)) (0 : Int) := by
    rw [Int.toNat_natCast]
    refine List.ext_getElem? fun j => ?_
    by_cases hj : j < l.length
    · rw [kcnt_get hj, List.getElem?_replicate, if_pos hj]; rfl
    · rw [List.getElem?_eq_none (by simpa [kcnt] using hj), List.getElem?_eq_none (by simpa using hj)]
  rw [e0] at h0
  have h1 : loopN (p_impl_OversOk_b1 n l) n ([], List.replicate (Int.toNat (l.length : Int)) (0 : Int), (0 : Int)) = some (bif goodOut l.length 0 [] l then .inr (names (flat l), kcnt (flat l) l.length, (l.length : Int), false) else .inl false) := h0
  have hkl : (kcnt (flat l) l.length).length = l.length := by simp [kcnt]
  have h3 := loop_okI (body := p_impl_OversOk_b3 n (kcnt (flat l) l.length)) (kcnt (flat l) l.length) (fun i c => decide (c = (1 : Int)) == decide (0 < i)) (fun i a ha => by
    have hi := lt_len ha
    have e : decide ((0 : Int) < (i : Int)) = decide (0 < i) := by
      by_cases q : 0 < i
      · rw [decide_eq_true q, decide_eq_true (by omega)]
      · rw [decide_eq_false q, decide_eq_false (by omega)]
    simp only [p_impl_OversOk_b3, lt_int ha, cond_true, ix_nat, ha, Option.bind_some, wrap_succ (show i < 4611686018427387904 by omega), e]
    cases decide (a = (1 : Int)) <;> cases decide (0 < i) <;> rfl) (by simp only [p_impl_OversOk_b3, not_lt_int, cond_false]) (n := n) (by omega)
  have hg := goodOut_iff l.length l 0 [] (by simp [names])
  have e4 : goodOut l.length 0 [] l = (allI (fun i o => overX o && o.f3.all (rng l.length i)) 0 l && once (names (flat l))) := by
    rw [Bool.eq_iff_iff, hg, Bool.and_eq_true, once_iff]
    rfl
  rw [e4] at h1
  rw [h1, hc]
  simp only [inRange_ok, Option.bind_some, ck, cond_true]
  generalize allI (fun i o => overX o && o.f3.all (rng l.length i)) 0 l = q1 at *
  generalize once (names (flat l)) = q2 at *
  cases decide (1 ≤ (l.length : Int)) <;> cases decide ((l.length : Int) ≤ 8) <;> cases q1 <;> cases q2 <;> try rfl
  simp only [Bool.and_self, Bool.not_true, cond_false, cond_true, Option.bind_some, Bool.true_and, h3]
  cases allI (fun i c => decide (c = (1 : Int)) == decide (0 < i)) 0 (kcnt (flat l) l.length) <;> rfl
def sub1 (l : List S_impl_Over) (i : Nat) : Bool := decide (i = 0) || decide ((((flat l).countP (subAt i) : Nat) : Int) = 1)
theorem spec_OversOk_ok (n : Nat) (l : List S_impl_Over) (hw : dl wOver l < n) (hn : n ≤ 1099511627776) : p_spec_OversOk n l = some (oversOk l) := by
  have hll := dl_len wOver l
  have hfl := flat_len l
  unfold p_spec_OversOk oversOk
  have h1 := loop_okI (body := p_spec_OversOk_b1 n l) l (fun i o => overX o && (sub1 l i && o.f3.all (rng l.length i))) (fun i o ha => by
    have hi := lt_len ha
    have hmem := dl_mem wOver (List.mem_of_getElem? ha)
    have ho : p_spec_OverOk n o.f0 o.f1 o.f2 o.f3 o.f4 o.f5 o.f6 = some (overX o) := spec_OverOk_ok n _ _ _ _ _ _ _ (by rw [S_impl_Over_eta]; omega) (by omega)
    have hs := flat_sum ha
    simp only [p_spec_OversOk_b1, lt_int ha, cond_true, ix_nat, ha, Option.bind_some, ho, wrap_succ (show i < 4611686018427387904 by omega), l14Subs_ok n l i hw hn]
    cases hx : overX o with
    | false => rfl
    | true =>
      have w1 : IntKind.wrap .i64 ((i : Int) + 1) = ((i + 1 : Nat) : Int) := wrap_succ (by omega)
      have w2 : IntKind.wrap .i64 ((l.length : Int) - 1) = (l.length : Int) - 1 := wrap_i64 (by omega) (by omega)
      have hin := loop_ok (body := p_spec_OversOk_b2 n l (i : Int)) o.f3 (rng l.length i) (fun j k hk => by
        have hj := lt_len hk
        have h6 := kidX_sub (overX_kids hx k (List.mem_of_getElem? hk))
        simp only [p_spec_OversOk_b2, ix_nat, ha, Option.bind_some, lt_int hk, cond_true, hk, w1, w2, l1In_ok, wrap_succ (show j < 4611686018427387904 by omega)]
        by_cases c : 0 ≤ k.f6
        · have e : rng l.length i k = (decide (((i + 1 : Nat) : Int) ≤ k.f6) && decide (k.f6 ≤ (l.length : Int) - 1)) := by rw [rng, decide_eq_false (show ¬ k.f6 = -1 by omega)]; rfl
          rw [decide_eq_true c, e]
          cases decide (((i + 1 : Nat) : Int) ≤ k.f6) <;> cases decide (k.f6 ≤ (l.length : Int) - 1) <;> rfl
        · have e : rng l.length i k = true := by rw [rng, decide_eq_true (show k.f6 = -1 by omega)]; rfl
          rw [decide_eq_false c, e]
          rfl) (by simp only [p_spec_OversOk_b2, ix_nat, ha, Option.bind_some, not_lt_int, cond_false]) (n := n) (by omega)
      simp only [Bool.not_true, cond_false, Bool.true_and]
      rw [hin]
      by_cases c : i = 0
      · have e : sub1 l i = true := by rw [sub1, decide_eq_true c]; rfl
        rw [e, decide_eq_false (show ¬ (0 : Int) < (i : Int) by omega)]
        cases o.f3.all (rng l.length i) <;> rfl
      · have e : sub1 l i = decide ((((flat l).countP (subAt i) : Nat) : Int) = 1) := by rw [sub1, decide_eq_false c]; rfl
        rw [e, decide_eq_true (show (0 : Int) < (i : Int) by omega)]
        cases decide ((((flat l).countP (subAt i) : Nat) : Int) = 1) <;> cases o.f3.all (rng l.length i) <;> rfl) (by simp only [p_spec_OversOk_b1, not_lt_int, cond_false]) (n := n) (by omega)
  rw [h1, l14Names_ok n l hw hn]
  simp only [l1In_ok, Option.bind_some, l4Once_ok n (names (flat l)) (by rw [names_len]; omega) (by omega)]
  have key : (decide (1 ≤ (l.length : Int)) = true) → allI (fun i o => overX o && (sub1 l i && o.f3.all (rng l.length i))) 0 l = (allI (fun i o => overX o && o.f3.all (rng l.length i)) 0 l && allI (fun i c => decide (c = (1 : Int)) == decide (0 < i)) 0 (kcnt (flat l) l.length)) := by
    intro hl
    rw [decide_eq_true_eq] at hl
    rw [Bool.eq_iff_iff, Bool.and_eq_true, allI_iff, allI_iff, allI_iff]
    simp only [Nat.zero_add, Bool.and_eq_true]
    constructor
    · intro h
      refine ⟨fun j a ha => ⟨(h j a ha).1, (h j a ha).2.2⟩, fun j c hc => ?_⟩
      have hj : j < l.length := by have := lt_len hc; simpa [kcnt] using this
      rw [kcnt_get hj] at hc
      cases hc
      have hs := (h j l[j] (List.getElem?_eq_getElem hj)).2.1
      by_cases c : j = 0
      · subst c
        have : (flat l).countP (subAt 0) = 0 := by
          rw [List.countP_eq_zero]
          intro k hk h0
          obtain ⟨o, ho, hk2⟩ := List.mem_flatMap.1 hk
          obtain ⟨i, hi⟩ := List.getElem?_of_mem ho
          have hr := List.all_eq_true.1 (h i o hi).2.2 k hk2
          simp only [subAt, decide_eq_true_eq] at h0
          rw [rng, decide_eq_false (show ¬ k.f6 = -1 by omega), decide_eq_false (show ¬ ((i + 1 : Nat) : Int) ≤ k.f6 by omega)] at hr
          cases hr
        rw [this]; rfl
      · rw [sub1, decide_eq_false c, Bool.false_or] at hs
        rw [hs, decide_eq_true (show 0 < j by omega)]; rfl
    · rintro ⟨h1, h2⟩ j a ha
      refine ⟨(h1 j a ha).1, ?_, (h1 j a ha).2⟩
      have hj := lt_len ha
      have := h2 j _ (kcnt_get hj)
      by_cases c : j = 0
      · rw [sub1, decide_eq_true c]; rfl
      · rw [decide_eq_true (show 0 < j by omega)] at this
        rw [sub1, decide_eq_false c, Bool.false_or]
        revert this
        cases decide ((((flat l).countP (subAt j) : Nat) : Int) = 1) <;> simp
  cases hl1 : decide (1 ≤ (l.length : Int)) with
  | false => rfl
  | true =>
    rw [key hl1]
    generalize allI (fun i o => overX o && o.f3.all (rng l.length i)) 0 l = q1
    generalize once (names (flat l)) = q2
    generalize allI (fun i c => decide (c = (1 : Int)) == decide (0 < i)) 0 (kcnt (flat l) l.length) = q3
    cases decide ((l.length : Int) ≤ 8) <;> cases q1 <;> cases q2 <;> cases q3 <;> rfl
theorem law (l : List S_laws_Over) (ho : l.length ≤ maxLen ∧ ∀ a ∈ l, okOver a) : ∃ n, p_laws_FnExactOversOk n l = some true := by
  refine ⟨dl dOver l + 1, ?_⟩
  generalize hN : dl dOver l + 1 = n
  unfold p_laws_FnExactOversOk
  rw [szOverS_ok n l 1048576 (by omega) ho.1 ho.2 (by omega) (by omega)]
  by_cases hz : (zl zOver l : Int) ≤ 1048576
  · have hd := dl_le (C := 8) dOver_z (by omega) (by omega) l
    rw [if_pos hz]
    simp only [Option.bind_some]
    rw [decide_eq_false (by omega), cond_false, toOverS_ok n l (by omega) (by omega)]
    have hw : dl wOver (cOvers l) < n := by rw [dl_cOver]; omega
    simp only [Option.bind_some, spec_OversOk_ok n _ hw (by omega), impl_OversOk_ok n _ hw (by omega), beq_self_eq_true, Bool.not_true, cond_false, eqOverS_ok n _ hw (by omega)]
  · rw [if_neg hz]; rfl
end Go.Own.Q
