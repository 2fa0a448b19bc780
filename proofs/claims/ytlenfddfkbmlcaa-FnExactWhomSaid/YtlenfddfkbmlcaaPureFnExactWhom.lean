/- The program's Whom returns what the reference's returns, for all arguments: no condition. -/
import Derived.Test.YtlenfddfkbmlcaaPFnExactWhomx2
namespace Go.Proofs.Ytlenfddfkbmlcaa.Pure
open Go.RowKit Go.Proofs.Ytlenfddfkbmlcaa.PFnExactWhom Go.Proofs.YtlenfddfkbmlcaaW.PrintWords Go.Proofs.YtlenfddfkbmlcaaW.PrintLast

/-- The numbers a, a + 1, .. , m of them. -/
def rng (a : Int) : Nat → List Int
  | 0 => []
  | m + 1 => a :: rng (a + 1) m
theorem rng_length (m : Nat) : ∀ a, (rng a m).length = m := by
  induction m with
  | zero => intro a; rfl
  | succ m ih => intro a; simp [rng, ih]
theorem w64 {i : Int} (h0 : -1000 ≤ i) (h : i ≤ 100000) : wrap64 i = i := by unfold wrap64; omega

theorem impl_l0 (d : Nat) : ∀ (k : Nat) (hi : Int) (acc : List Int) (i : Int), 0 ≤ i → hi ≤ 99 → hi + 1 - i = d → d < k → acc.length + d ≤ 1000 →
    impl_Whom.l0 k hi acc i = some (acc ++ rng i d) := by
  induction d with
  | zero =>
    intro k hi acc i h0 h1 hd hk hl
    obtain ⟨k, rfl⟩ : ∃ m, k = m + 1 := ⟨k - 1, by omega⟩
    simp only [impl_Whom.l0]; rw [if_neg (by omega)]; simp [rng]
  | succ d ih =>
    intro k hi acc i h0 h1 hd hk hl
    obtain ⟨k, rfl⟩ : ∃ m, k = m + 1 := ⟨k - 1, by omega⟩
    simp only [impl_Whom.l0]; rw [if_pos (by omega), if_pos (by omega), w64 (by omega) (by omega), ih k hi _ (i + 1) (by omega) h1 (by omega) (by omega) (by simp; omega)]
    simp [rng]

/-- What goes with the i-th. -/
def with_ (way i x : Int) : Bool := decide (way = 2) || (decide (way = 3) && decide (x ≥ i)) || (decide (way = 1) && decide (x = i))

theorem spec_l0 (d : Nat) : ∀ (k : Nat) (way n i : Int) (acc : List Int) (x : Int), 0 ≤ x → n ≤ 100 → n - x = d → d < k → acc.length + d ≤ 1000 →
    spec_Whom.l0 k way n i acc x = some (acc ++ (rng x d).filter (with_ way i)) := by
  induction d with
  | zero =>
    intro k way n i acc x h0 h1 hd hk hl
    obtain ⟨k, rfl⟩ : ∃ m, k = m + 1 := ⟨k - 1, by omega⟩
    simp only [spec_Whom.l0]; rw [if_neg (by omega)]; simp [rng]
  | succ d ih =>
    intro k way n i acc x h0 h1 hd hk hl
    obtain ⟨k, rfl⟩ : ∃ m, k = m + 1 := ⟨k - 1, by omega⟩
    have hl2 : acc.length < 17592186044416 := by omega
    have yes := ih k way n i (acc ++ [x]) (x + 1) (by omega) h1 (by omega) (by omega) (by simp; omega)
    have no := ih k way n i acc (x + 1) (by omega) h1 (by omega) (by omega) (by omega)
    simp only [spec_Whom.l0]; rw [if_pos (by omega), w64 (by omega) (by omega)]
    by_cases e2 : way = 2
    · rw [if_pos e2, if_pos hl2, yes]; simp [rng, with_, e2]
    · rw [if_neg e2]
      by_cases e3 : way = 3
      · have e1 : ¬ way = 1 := by omega
        rw [if_pos e3]
        by_cases hx : x ≥ i
        · rw [if_pos hx, if_pos hl2, yes]; simp [rng, with_, e3, hx]
        · rw [if_neg hx, if_neg e1, no]; simp [rng, with_, e3, hx]
      · rw [if_neg e3]
        by_cases e1 : way = 1
        · rw [if_pos e1]
          by_cases hx : x = i
          · rw [if_pos hx, if_pos hl2, yes]; simp [rng, with_, e1, hx]
          · rw [if_neg hx, no]; simp [rng, with_, e1, hx]
        · rw [if_neg e1, no]; simp [rng, with_, e1, e2, e3]

theorem filter_all (d : Nat) : ∀ (x i : Int), (rng x d).filter (with_ 2 i) = rng x d := by
  induction d with
  | zero => intro x i; rfl
  | succ d ih => intro x i; simp [rng, with_]
theorem filter_rest (d : Nat) : ∀ (x i : Int), x ≤ i → (rng x d).filter (with_ 3 i) = rng i (x + d - i).toNat := by
  induction d with
  | zero => intro x i h; have : (x + ((0 : Nat) : Int) - i).toNat = 0 := by omega
            rw [this]; rfl
  | succ d ih =>
    intro x i h
    by_cases e : x = i
    · subst e
      have h2 : ∀ (m : Nat) (y : Int), x ≤ y → (rng y m).filter (with_ 3 x) = rng y m := by
        intro m
        induction m with
        | zero => intro y _; rfl
        | succ m ihm => intro y hy; simp only [rng, List.filter_cons]; rw [if_pos (by simp [with_]; omega), ihm (y + 1) (by omega)]
      rw [h2 _ _ (Int.le_refl _)]
      have : (x + ((d + 1 : Nat) : Int) - x).toNat = d + 1 := by omega
      rw [this]
    · simp only [rng, List.filter_cons]
      rw [if_neg (by simp [with_]; omega), ih (x + 1) i (by omega)]
      have : (x + 1 + (d : Int) - i).toNat = (x + ((d + 1 : Nat) : Int) - i).toNat := by omega
      rw [this]
theorem filter_one (d : Nat) : ∀ (x i : Int), x ≤ i → i < x + d → (rng x d).filter (with_ 1 i) = [i] := by
  have none_ : ∀ (m : Nat) (y i : Int), i < y → (rng y m).filter (with_ 1 i) = [] := by
    intro m
    induction m with
    | zero => intro y i _; rfl
    | succ m ihm => intro y i hy; simp only [rng, List.filter_cons]; rw [if_neg (by simp [with_]; omega), ihm (y + 1) i (by omega)]
  induction d with
  | zero => intro x i h h2; omega
  | succ d ih =>
    intro x i h h2
    simp only [rng, List.filter_cons]
    by_cases e : x = i
    · subst e; rw [if_pos (by simp [with_]), none_ d (x + 1) x (by omega)]
    · rw [if_neg (by simp [with_]; omega), ih (x + 1) i (by omega) (by omega)]
theorem filter_other (d : Nat) : ∀ (x i way : Int), way ≠ 1 → way ≠ 2 → way ≠ 3 → (rng x d).filter (with_ way i) = [] := by
  induction d with
  | zero => intro x i way _ _ _; rfl
  | succ d ih => intro x i way h1 h2 h3; simp only [rng, List.filter_cons]; rw [if_neg (by simp [with_, h1, h2, h3]), ih _ _ _ h1 h2 h3]

/-- What both answer. -/
def goes (way n i : Int) : List Int :=
  if 1 ≤ n ∧ n ≤ 100 ∧ 0 ≤ i ∧ i ≤ n - 1 then (rng 0 n.toNat).filter (with_ way i) else []

theorem goes_length (way n i : Int) : (goes way n i).length ≤ 100 := by
  unfold goes
  split
  · rename_i h
    have := List.length_filter_le (with_ way i) (rng 0 n.toNat)
    rw [rng_length] at this
    omega
  · simp

theorem spec_goes (k : Nat) (hk : 200 < k) (way n i : Int) : spec_Whom.f k way n i = some (goes way n i) := by
  obtain ⟨k, rfl⟩ : ∃ m, k = m + 1 := ⟨k - 1, by omega⟩
  unfold spec_Whom.f spec_l1In.f goes
  simp only [Option.bind_some]
  by_cases h1 : n ≥ 1
  · rw [if_pos h1]; simp only [Option.bind_some]
    by_cases h2 : n ≤ 100
    · rw [if_pos (by simpa using h2), w64 (by omega) (by omega)]
      by_cases h3 : i ≥ 0
      · rw [if_pos h3]; simp only [Option.bind_some, spec_Whom.j0]
        by_cases h4 : i ≤ n - 1
        · rw [if_neg (by simpa using h4), if_pos ⟨h1, h2, h3, h4⟩, spec_l0 n.toNat k way n i [] 0 (by omega) h2 (by omega) (by omega) (by simp; omega)]; simp
        · rw [if_pos (by simpa using h4), if_neg (by omega)]
      · rw [if_neg h3]; simp only [Option.bind_some, spec_Whom.j0]; rw [if_pos (by simp), if_neg (by omega)]
    · rw [if_neg (by simpa using h2)]; simp only [spec_Whom.j0]; rw [if_pos trivial, if_neg (by omega)]
  · rw [if_neg h1]; simp only [Option.bind_some, spec_Whom.j0]; simp; omega

theorem goes_in {way n i : Int} (h1 : 1 ≤ n) (h2 : n ≤ 100) (h3 : 0 ≤ i) (h4 : i ≤ n - 1) : goes way n i = (rng 0 n.toNat).filter (with_ way i) := by
  unfold goes; rw [if_pos ⟨h1, h2, h3, h4⟩]
theorem goes_out {way n i : Int} (h : ¬ (1 ≤ n ∧ n ≤ 100 ∧ 0 ≤ i ∧ i ≤ n - 1)) : goes way n i = [] := by
  unfold goes; rw [if_neg h]

theorem impl_goes (k : Nat) (hk : 200 < k) (way n i : Int) : impl_Whom.f k way n i = some (goes way n i) := by
  obtain ⟨k, rfl⟩ : ∃ m, k = m + 2 := ⟨k - 2, by omega⟩
  unfold impl_Whom.f impl_inRange.f
  by_cases h1 : n ≥ 1
  · rw [if_pos h1]; simp only [Option.bind_some]
    by_cases h2 : n ≤ 100
    · rw [if_pos (by simpa using h2), w64 (by omega) (by omega)]
      by_cases h3 : i ≥ 0
      · rw [if_pos h3]; simp only [Option.bind_some, impl_Whom.j0, impl_Whom.j1]
        by_cases h4 : i ≤ n - 1
        · rw [if_neg (by simpa using h4), goes_in h1 h2 h3 h4]
          by_cases e1 : way = 1
          · subst e1
            rw [if_pos rfl, filter_one _ _ _ h3 (by omega), impl_l0 1 k i [] i h3 (by omega) (by omega) (by omega) (by simp)]; rfl
          · rw [if_neg e1]
            by_cases e2 : way = 2
            · subst e2
              rw [if_pos rfl, w64 (by omega) (by omega), filter_all, impl_l0 n.toNat k (n - 1) [] 0 (by omega) (by omega) (by omega) (by omega) (by simp; omega)]; simp
            · rw [if_neg e2]
              by_cases e3 : way = 3
              · subst e3
                rw [if_pos rfl, w64 (by omega) (by omega), filter_rest _ _ _ h3, impl_l0 (0 + (n.toNat : Int) - i).toNat k (n - 1) [] i (by omega) (by omega) (by omega) (by omega) (by simp; omega)]; simp
              · rw [if_neg e3, filter_other _ _ _ _ e1 e2 e3]
        · rw [if_pos (by simpa using h4), goes_out (by omega)]
      · rw [if_neg h3]; simp only [Option.bind_some, impl_Whom.j0]; rw [if_pos (by simp), goes_out (by omega)]
    · rw [if_neg (by simpa using h2)]; simp only [impl_Whom.j0]; rw [if_pos trivial, goes_out (by omega)]
  · rw [if_neg h1]; simp only [Option.bind_some, impl_Whom.j0]; rw [goes_out (by omega)]; simp

theorem eq_self_l0 (d : Nat) : ∀ (k : Nat) (l : List Int) (i : Int), 0 ≤ i → l.length ≤ 1000 → (l.length : Int) - i = d → d < k → laws_eqIntS.l0 k l l i = some true := by
  induction d with
  | zero =>
    intro k l i h0 hl hd hk
    obtain ⟨k, rfl⟩ : ∃ m, k = m + 1 := ⟨k - 1, by omega⟩
    simp only [laws_eqIntS.l0]; rw [if_neg (by omega)]
  | succ d ih =>
    intro k l i h0 hl hd hk
    obtain ⟨k, rfl⟩ : ∃ m, k = m + 1 := ⟨k - 1, by omega⟩
    simp only [laws_eqIntS.l0]; rw [if_pos (by omega), if_pos h0, if_pos (by omega), if_pos trivial, w64 (by omega) (by omega)]
    exact ih k l (i + 1) (by omega) hl (by omega) (by omega)
theorem eq_self (k : Nat) (hk : 1001 < k) (l : List Int) (hl : l.length ≤ 1000) : laws_eqIntS.f k l l = some true := by
  unfold laws_eqIntS.f; rw [if_pos rfl]; exact eq_self_l0 l.length k l 0 (by omega) hl (by omega) (by omega)

theorem mark_l0 (d : Nat) : ∀ (k : Nat) (l : List Int) (i : Nat), l.length ≤ 1000 → l.length - i = d → i ≤ l.length → d < k → (∀ j, j < i → l.getD j 0 = 1 + j) →
    ∃ l', laws_markIntS.l0 k l (1 + i) i = some (1 + (l.length : Int), l') ∧ l'.length = l.length ∧ ∀ j, j < l.length → l'.getD j 0 = 1 + j := by
  induction d with
  | zero =>
    intro k l i hl hd hi hk h
    obtain ⟨k, rfl⟩ : ∃ m, k = m + 1 := ⟨k - 1, by omega⟩
    have e : i = l.length := by omega
    subst e
    exact ⟨l, by simp only [laws_markIntS.l0]; rw [if_neg (by omega)], rfl, h⟩
  | succ d ih =>
    intro k l i hl hd hi hk h
    obtain ⟨k, rfl⟩ : ∃ m, k = m + 1 := ⟨k - 1, by omega⟩
    have hlt : i < l.length := by omega
    obtain ⟨l', e, e2, e3⟩ := ih k (l.set i (1 + (i : Int))) (i + 1) (by simpa using hl) (by simp; omega) (by simp; omega) (by omega) (fun j hj => by
      by_cases hji : j = i
      · subst hji; simp [hlt]
      · rw [List.getD_eq_getElem?_getD, List.getElem?_set_ne (Ne.symm hji), ← List.getD_eq_getElem?_getD]; exact h j (by omega))
    refine ⟨l', ?_, by simpa using e2, fun j hj => e3 j (by simpa using hj)⟩
    simp only [laws_markIntS.l0]; rw [if_pos (by omega), if_pos (by omega), w64 (by omega) (by omega), w64 (by omega) (by omega)]
    have h1 : ((i : Int)).toNat = i := by omega
    rw [h1]
    simp only [List.length_set] at e
    have h2 : (1 : Int) + ((i + 1 : Nat) : Int) = 1 + (i : Int) + 1 := by omega
    have h3 : ((i + 1 : Nat) : Int) = (i : Int) + 1 := by omega
    rw [h2, h3] at e
    exact e
theorem held_l0 (d : Nat) : ∀ (k : Nat) (l : List Int) (i : Nat), l.length ≤ 1000 → l.length - i = d → i ≤ l.length → d < k → (∀ j, j < l.length → l.getD j 0 = 1 + j) →
    laws_heldIntS.l0 k l (1 + i) i = some (1 + (l.length : Int)) := by
  induction d with
  | zero =>
    intro k l i hl hd hi hk h
    obtain ⟨k, rfl⟩ : ∃ m, k = m + 1 := ⟨k - 1, by omega⟩
    have e : i = l.length := by omega
    subst e
    simp only [laws_heldIntS.l0]; rw [if_neg (by omega)]
  | succ d ih =>
    intro k l i hl hd hi hk h
    obtain ⟨k, rfl⟩ : ∃ m, k = m + 1 := ⟨k - 1, by omega⟩
    have hlt : i < l.length := by omega
    have hr : rd l i = 1 + (i : Int) := h i hlt
    simp only [laws_heldIntS.l0]; rw [if_pos (by omega), if_pos (by omega), if_pos hr, w64 (by omega) (by omega), w64 (by omega) (by omega)]
    have := ih k l (i + 1) hl (by omega) (by omega) (by omega) h
    have h2 : (1 : Int) + ((i + 1 : Nat) : Int) = 1 + (i : Int) + 1 := by omega
    have h3 : ((i + 1 : Nat) : Int) = (i : Int) + 1 := by omega
    rw [h2, h3] at this
    exact this

theorem FnExactWhom : laws_FnExactWhom.Pure := by
  intro way n i _ _ _
  have hg := goes_length way n i
  obtain ⟨l', m1, m2, m3⟩ := mark_l0 (goes way n i).length 2000 (goes way n i) 0 (by omega) (by omega) (by omega) (by omega) (fun j hj => by omega)
  have hm : laws_markIntS.f 2000 (goes way n i) 1 = some (1 + ((goes way n i).length : Int), l') := m1
  have hh : laws_heldIntS.f 2000 l' 1 = some (1 + (l'.length : Int)) := held_l0 l'.length 2000 l' 0 (by omega) (by omega) (by omega) (by omega) (fun j hj => m3 j (by omega))
  refine ⟨2000, ?_⟩
  unfold laws_FnExactWhom.f
  rw [spec_goes 2000 (by omega), impl_goes 2000 (by omega)]; simp only [Option.bind_some]
  rw [eq_self 2000 (by omega) _ (by omega)]; simp only [Option.bind_some]
  rw [if_pos trivial, hm]; simp only [Option.bind_some]
  rw [hh]; simp only [Option.bind_some]
  rw [if_neg (by omega), if_pos (by omega), if_pos trivial, if_neg (by omega), if_pos (by omega)]
end Go.Proofs.Ytlenfddfkbmlcaa.Pure
