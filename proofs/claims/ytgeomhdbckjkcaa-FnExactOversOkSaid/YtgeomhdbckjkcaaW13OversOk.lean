/- The law FnExactOversOk, in plain Lean. No conditions. -/
import Derived.Test.YtgeomhdbckjkcaaW13OverOk
set_option linter.unusedVariables false
set_option linter.unusedSimpArgs false
set_option linter.unnecessarySimpa false
namespace Go.Own.Q
open Go Go.Proofs

def names (P : List S_impl_Kid) : List (List UInt8) := P.map (·.f0)
def subAt (m : Nat) (k : S_impl_Kid) : Bool := decide (k.f6 = (m : Int))
def kcnt (P : List S_impl_Kid) (L : Nat) : List Int := (List.range L).map fun m => ((P.countP (subAt m) : Nat) : Int)
def rng (L i : Nat) (k : S_impl_Kid) : Bool := decide (k.f6 = -1) || (decide (((i + 1 : Nat) : Int) ≤ k.f6) && decide (k.f6 ≤ (L : Int) - 1))
def overX (o : S_impl_Over) : Bool := overOk o.f0 o.f1 o.f2 o.f3 o.f4 o.f5
def flat (l : List S_impl_Over) : List S_impl_Kid := l.flatMap (·.f3)
def goodIn (L i : Nat) : List S_impl_Kid → List S_impl_Kid → Bool
  | _, [] => true
  | P, k :: r => !(decide (k.f0 ∈ names P)) && (rng L i k && goodIn L i (P ++ [k]) r)
def goodOut (L : Nat) : Nat → List S_impl_Kid → List S_impl_Over → Bool
  | _, _, [] => true
  | i, P, o :: r => overX o && (goodIn L i P o.f3 && goodOut L (i + 1) (P ++ o.f3) r)

theorem names_app (P Q : List S_impl_Kid) : names (P ++ Q) = names P ++ names Q := List.map_append ..
theorem names_len (P : List S_impl_Kid) : (names P).length = P.length := List.length_map ..
theorem index_ok (n : Nat) (l : List (List UInt8)) (s : List UInt8) (hn : l.length < n) (h2 : n < 4611686018427387904) : p_slices_Index_cf0e n l s = some (fidx (fun a => decide (s = a)) 0 l) := by
  unfold p_slices_Index_cf0e
  have e := loop_find (body := p_slices_Index_cf0e_b1 n l s) l (fun a => decide (s = a)) (fun i => (i : Int)) (fun i => Sum.inl (i : Int)) (Sum.inr ((l.length : Int), false)) (fun i a ha => by
    have hi := lt_len ha
    simp only [p_slices_Index_cf0e_b1, lt_int ha, cond_true, ix_nat, ha, Option.bind_some, wrap_succ (show i < 4611686018427387904 by omega)]
    cases decide (s = a) <;> rfl) (by simp only [p_slices_Index_cf0e_b1, not_lt_int, cond_false]) hn
  refine (congrArg (fun q => Option.bind q _) e).trans ?_
  rcases fidx_get (fun a => decide (s = a)) l 0 with ⟨h, _⟩ | ⟨k, a, h, _⟩
  · rw [h]; rfl
  · rw [h, decide_eq_false (by omega)]
    simp only [Option.bind_some, cond_false, Int.toNat_natCast]
theorem contains_ok (n : Nat) (l : List (List UInt8)) (s : List UInt8) (hn : l.length < n) (h2 : n < 4611686018427387904) : p_slices_Contains_35c2 n l s = some (decide (s ∈ l)) := by
  unfold p_slices_Contains_35c2
  rw [index_ok n l s hn h2]
  simp only [Option.bind_some, Option.some.injEq]
  rcases fidx_get (fun a => decide (s = a)) l 0 with ⟨h, h1⟩ | ⟨k, a, h, h1, h3, _⟩
  · rw [h, decide_eq_false (by omega), decide_eq_false (fun hm => by have := h1 s hm; simp at this)]
  · simp only [decide_eq_true_eq] at h3
    subst h3
    rw [h, decide_eq_true (by omega), decide_eq_true (List.mem_of_getElem? h1)]

theorem kcnt_get {P : List S_impl_Kid} {L m : Nat} (h : m < L) : (kcnt P L)[m]? = some ((P.countP (subAt m) : Nat) : Int) := by
  simp only [kcnt, List.getElem?_map, List.getElem?_range h, Option.map_some]
theorem kcnt_none {P : List S_impl_Kid} {L : Nat} {k : S_impl_Kid} (h : k.f6 = -1) : kcnt (P ++ [k]) L = kcnt P L := by
  unfold kcnt
  refine List.map_congr_left fun m _ => ?_
  rw [List.countP_append, List.countP_singleton, subAt, decide_eq_false (by omega)]
  rfl
theorem kcnt_set {P : List S_impl_Kid} {L m : Nat} {k : S_impl_Kid} (h : k.f6 = (m : Int)) (hm : m < L) : (kcnt P L).set m (((P.countP (subAt m) : Nat) : Int) + 1) = kcnt (P ++ [k]) L := by
  refine List.ext_getElem? fun j => ?_
  rw [List.getElem?_set]
  by_cases e : m = j
  · subst e
    rw [if_pos rfl, if_pos (by simpa [kcnt] using hm), kcnt_get hm, List.countP_append, List.countP_singleton, subAt, decide_eq_true h]
    simp
  · rw [if_neg e]
    by_cases hj : j < L
    · rw [kcnt_get hj, kcnt_get hj, List.countP_append, List.countP_singleton, subAt, decide_eq_false (by omega)]
      rfl
    · rw [List.getElem?_eq_none (by simpa [kcnt] using hj), List.getElem?_eq_none (by simpa [kcnt] using hj)]

/-- The inner loop of the program. -/
theorem inner_ok (n : Nat) (l : List S_impl_Over) (i : Nat) (o : S_impl_Over) (hi : i < l.length) (hl : l.length ≤ 1099511627776) (hn : n < 4611686018427387904) (P0 : List S_impl_Kid) (hb : P0.length + o.f3.length < n) (hn2 : P0.length + o.f3.length ≤ 1099511627776) (hk : ∀ k ∈ o.f3, (-1 : Int) ≤ k.f6) :
    ∀ (r P : List S_impl_Kid) (j m : Nat), o.f3.drop j = r → P = P0 ++ o.f3.take j → r.length < m → j ≤ o.f3.length →
      loopN (p_impl_OversOk_b2 n l (i : Int) o) m (names P, kcnt P l.length, (j : Int)) = some (bif goodIn l.length i P r then .inr (names (P ++ r), kcnt (P ++ r) l.length, (o.f3.length : Int), false) else .inl false) := by
  intro r
  induction r with
  | nil =>
    intro P j m hr hP hm hj
    obtain ⟨m, rfl⟩ : ∃ q, m = q + 1 := ⟨m - 1, by simp at hm; omega⟩
    have : j = o.f3.length := by
      have := congrArg List.length hr
      simp at this; omega
    subst this
    simp only [loopN, p_impl_OversOk_b2, not_lt_int, cond_false, goodIn, cond_true, List.append_nil]
  | cons k r ih =>
    intro P j m hr hP hm hj
    obtain ⟨m, rfl⟩ : ∃ q, m = q + 1 := ⟨m - 1, by simp at hm; omega⟩
    have hjl : j < o.f3.length := by
      have := congrArg List.length hr
      simp at this; omega
    have ha : o.f3[j]? = some k := by
      have := congrArg (·[0]?) hr
      simpa using this
    have hr' : o.f3.drop (j + 1) = r := by
      have := congrArg List.tail hr
      simpa using this
    have hP' : P ++ [k] = P0 ++ o.f3.take (j + 1) := by rw [hP, List.append_assoc, take_succ' ha]
    have hPl : P.length = P0.length + j := by rw [hP, List.length_append, List.length_take]; omega
    have h6 := hk k (List.mem_of_getElem? ha)
    have ih' := ih (P ++ [k]) (j + 1) m hr' hP' (by simp at hm; omega) (by omega)
    have w1 : IntKind.wrap .i64 ((i : Int) + 1) = ((i + 1 : Nat) : Int) := wrap_succ (by omega)
    have w2 : IntKind.wrap .i64 ((l.length : Int) - 1) = (l.length : Int) - 1 := wrap_i64 (by omega) (by omega)
    have w3 : IntKind.wrap .i64 ((j : Int) + 1) = ((j + 1 : Nat) : Int) := wrap_succ (by omega)
    have hap : app2 16 (names P) [k.f0] = some (names (P ++ [k])) := by
      rw [names_app]
      exact app2_of (by rw [names_len]; simp only [List.length_singleton]; omega) (by rw [names_len]; simp only [List.length_singleton, maxLen]; omega)
    simp only [loopN, p_impl_OversOk_b2, lt_int ha, cond_true, ix_nat, ha, Option.bind_some, contains_ok n (names P) k.f0 (by rw [names_len]; omega) hn, goodIn, w1, w2, w3, inRange_ok, hap]
    cases decide (k.f0 ∈ names P) with
    | true => rfl
    | false =>
      simp only [cond_false, Bool.not_false, Bool.true_and]
      by_cases c1 : k.f6 = -1
      · have hrg : rng l.length i k = true := by rw [rng, decide_eq_true c1]; rfl
        rw [decide_eq_true c1, hrg]
        simp only [Bool.not_true, cond_false, Option.bind_some, Bool.true_and]
        rw [kcnt_none c1] at ih'
        rw [ih', List.append_assoc]
        rfl
      · have hrg : rng l.length i k = (decide (((i + 1 : Nat) : Int) ≤ k.f6) && decide (k.f6 ≤ (l.length : Int) - 1)) := by rw [rng, decide_eq_false c1]; rfl
        rw [decide_eq_false c1, hrg]
        simp only [Bool.not_false, cond_true, Option.bind_some]
        by_cases c2 : ((i + 1 : Nat) : Int) ≤ k.f6 ∧ k.f6 ≤ (l.length : Int) - 1
        · rw [decide_eq_true c2.1, decide_eq_true c2.2]
          obtain ⟨q, hq⟩ : ∃ q : Nat, k.f6 = (q : Int) := ⟨k.f6.toNat, by omega⟩
          have hql : q < l.length := by omega
          have hc := List.countP_le_length (p := subAt q) (l := P)
          have w4 : IntKind.wrap .i64 (((P.countP (subAt q) : Nat) : Int) + 1) = ((P.countP (subAt q) : Nat) : Int) + 1 := wrap_i64 (by omega) (by omega)
          simp only [Bool.and_self, Bool.not_true, cond_false, Option.bind_some, Bool.true_and, hq, ix_nat, kcnt_get hql, Int.toNat_natCast, w4]
          rw [kcnt_set hq hql, ih', List.append_assoc]
          rfl
        · have e2 : (decide (((i + 1 : Nat) : Int) ≤ k.f6) && decide (k.f6 ≤ (l.length : Int) - 1)) = false := by
            rw [Bool.eq_false_iff]
            intro h
            simp only [Bool.and_eq_true, decide_eq_true_eq] at h
            exact c2 h
          rw [e2]
          rfl
theorem kidX_sub {k : S_impl_Kid} (h : kidX k = true) : (-1 : Int) ≤ k.f6 := by
  unfold kidX kidB at h
  by_cases c : 0 ≤ k.f6
  · omega
  · rw [decide_eq_false c] at h
    by_cases c2 : k.f6 = -1
    · omega
    · rw [decide_eq_false c2] at h
      simp at h
theorem overX_kids {o : S_impl_Over} (h : overX o = true) : ∀ k ∈ o.f3, kidX k = true := by
  unfold overX overOk at h
  simp only [Bool.and_eq_true] at h
  exact List.all_eq_true.1 h.2.2.2.2.2.2.1
theorem flat_len : ∀ l : List S_impl_Over, (flat l).length ≤ dl wOver l
  | [] => by simp [flat]
  | o :: r => by
    have h1 := flat_len r
    have h2 := dl_len wKid o.f3
    have e : flat (o :: r) = o.f3 ++ flat r := List.flatMap_cons ..
    rw [e, List.length_append]
    have e2 : dl wOver (o :: r) = 1 + wOver o + dl wOver r := rfl
    have e3 : dl wKid o.f3 ≤ wOver o := by
      have : wOver o = wOver (.mk o.f0 o.f1 o.f2 o.f3 o.f4 o.f5 o.f6) := rfl
      rw [this]; simp only [wOver]; omega
    omega
theorem flat_app (a b : List S_impl_Over) : flat (a ++ b) = flat a ++ flat b := List.flatMap_append ..
theorem outer_ok (n : Nat) (l : List S_impl_Over) (hw : dl wOver l < n) (hn : n ≤ 1099511627776) :
    ∀ (r : List S_impl_Over) (i m : Nat), l.drop i = r → r.length < m → i ≤ l.length →
      loopN (p_impl_OversOk_b1 n l) m (names (flat (l.take i)), kcnt (flat (l.take i)) l.length, (i : Int)) = some (bif goodOut l.length i (flat (l.take i)) r then .inr (names (flat l), kcnt (flat l) l.length, (l.length : Int), false) else .inl false) := by
  have hfl := flat_len l
  have hll := dl_len wOver l
  intro r
  induction r with
  | nil =>
    intro i m hr hm hi
    obtain ⟨m, rfl⟩ : ∃ q, m = q + 1 := ⟨m - 1, by simp at hm; omega⟩
    have : i = l.length := by
      have := congrArg List.length hr
      simp at this; omega
    subst this
    simp only [loopN, p_impl_OversOk_b1, not_lt_int, cond_false, goodOut, cond_true, List.take_length]
  | cons o r ih =>
    intro i m hr hm hi
    obtain ⟨m, rfl⟩ : ∃ q, m = q + 1 := ⟨m - 1, by simp at hm; omega⟩
    have hil : i < l.length := by
      have := congrArg List.length hr
      simp at this; omega
    have ha : l[i]? = some o := by
      have := congrArg (·[0]?) hr
      simpa using this
    have hr' : l.drop (i + 1) = r := by
      have := congrArg List.tail hr
      simpa using this
    have hmem := dl_mem wOver (List.mem_of_getElem? ha)
    have e1 : flat (l.take (i + 1)) = flat (l.take i) ++ o.f3 := by
      rw [← take_succ' ha, flat_app]
      congr 1
      exact (List.flatMap_cons ..).trans (List.append_nil _)
    have hsum : (flat (l.take i)).length + o.f3.length ≤ (flat l).length := by
      rw [← List.length_append, ← e1]
      have : flat l = flat (l.take (i + 1)) ++ flat (l.drop (i + 1)) := by rw [← flat_app, List.take_append_drop]
      rw [this, List.length_append]; omega
    have w3 : IntKind.wrap .i64 ((i : Int) + 1) = ((i + 1 : Nat) : Int) := wrap_succ (by omega)
    have ih' := ih (i + 1) m hr' (by simp at hm; omega) (by omega)
    rw [e1] at ih'
    have ho : p_impl_OverOk n o.f0 o.f1 o.f2 o.f3 o.f4 o.f5 o.f6 = some (overX o) := impl_OverOk_ok n _ _ _ _ _ _ _ (by rw [S_impl_Over_eta]; omega) (by omega)
    simp only [loopN, p_impl_OversOk_b1, lt_int ha, cond_true, ix_nat, ha, Option.bind_some, ho, goodOut, w3]
    cases hx : overX o with
    | false => rfl
    | true =>
      have hin := inner_ok n l i o hil (by omega) (by omega) (flat (l.take i)) (by omega) (by omega) (fun k hk => kidX_sub (overX_kids hx k hk)) o.f3 (flat (l.take i)) 0 n rfl (by simp) (by omega) (by omega)
      simp only [Bool.not_true, cond_false, Bool.true_and]
      rw [show ((0 : Nat) : Int) = 0 from rfl] at hin
      rw [hin]
      cases goodIn l.length i (flat (l.take i)) o.f3 with
      | false => rfl
      | true =>
        simp only [cond_true, Option.bind_some, Bool.true_and]
        exact ih'
def once (l : List (List UInt8)) : Bool := allI (fun i a => !(decide (a ∈ l.take i))) 0 l
theorem once_iff (l : List (List UInt8)) : once l = true ↔ l.Nodup := by
  unfold once
  rw [allI_iff, List.Nodup, List.pairwise_iff_getElem]
  constructor
  · intro h i j hi hj hij e
    have := h j l[j] (List.getElem?_eq_getElem hj)
    simp only [Nat.zero_add, Bool.not_eq_true', decide_eq_false_iff_not] at this
    exact this (by rw [← e]; exact List.mem_take_iff_getElem.2 ⟨i, by omega, rfl⟩)
  · intro h j a ha
    simp only [Nat.zero_add, Bool.not_eq_true', decide_eq_false_iff_not]
    intro hm
    obtain ⟨i, hi, e⟩ := List.mem_take_iff_getElem.1 hm
    obtain ⟨hj, rfl⟩ := List.getElem?_eq_some_iff.1 ha
    exact h i j (by omega) hj (by omega) e
theorem goodIn_iff (L i : Nat) : ∀ (r P : List S_impl_Kid), (names P).Nodup → (goodIn L i P r = true ↔ (∀ k ∈ r, rng L i k = true) ∧ (names (P ++ r)).Nodup)
  | [], P, hP => by simp [goodIn, hP]
  | k :: r, P, hP => by
    simp only [goodIn, Bool.and_eq_true, Bool.not_eq_true', decide_eq_false_iff_not]
    by_cases hk : k.f0 ∈ names P
    · refine ⟨fun h => absurd hk h.1, fun h => ?_⟩
      have h2 := h.2
      rw [names_app] at h2
      have := (List.nodup_append.1 h2).2.2 _ hk _ (List.mem_cons_self ..)
      exact absurd rfl this
    · have hP' : (names (P ++ [k])).Nodup := by
        rw [names_app]
        refine List.nodup_append.2 ⟨hP, by simp [names], fun a ha b hb => ?_⟩
        simp only [names, List.map_cons, List.map_nil, List.mem_singleton] at hb
        subst hb
        exact fun e => hk (e ▸ ha)
      rw [goodIn_iff L i r (P ++ [k]) hP', List.append_assoc, List.singleton_append]
      simp only [List.mem_cons, forall_eq_or_imp]
      exact ⟨fun h => ⟨⟨h.2.1, h.2.2.1⟩, h.2.2.2⟩, fun h => ⟨hk, h.1.1, h.1.2, h.2⟩⟩
theorem goodOut_iff (L : Nat) : ∀ (r : List S_impl_Over) (i : Nat) (P : List S_impl_Kid), (names P).Nodup → (goodOut L i P r = true ↔ (allI (fun i o => overX o && o.f3.all (rng L i)) i r = true) ∧ (names (P ++ flat r)).Nodup)
  | [], i, P, hP => by simp [goodOut, hP, allI, flat]
  | o :: r, i, P, hP => by
    have e : flat (o :: r) = o.f3 ++ flat r := List.flatMap_cons ..
    simp only [goodOut, Bool.and_eq_true, allI, List.all_eq_true]
    rw [goodIn_iff L i o.f3 P hP, e, ← List.append_assoc]
    by_cases h2 : (names (P ++ o.f3)).Nodup
    · rw [goodOut_iff L r (i + 1) (P ++ o.f3) h2]
      exact ⟨fun h => ⟨⟨⟨h.1, h.2.1.1⟩, h.2.2.1⟩, h.2.2.2⟩, fun h => ⟨h.1.1.1, ⟨h.1.1.2, h2⟩, h.1.2, h.2⟩⟩
    · refine ⟨fun h => absurd h.2.1.2 h2, fun h => absurd ?_ h2⟩
      have := h.2
      rw [names_app] at this
      exact (List.nodup_append.1 this).1
end Go.Own.Q
