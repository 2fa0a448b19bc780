/- Words and lists of them: the program's answers and the reference's, in plain Lean. No conditions. -/
import Derived.Test.YtgeomhdbckjkcaaW16Atom
set_option linter.unusedVariables false
set_option linter.unusedSimpArgs false
set_option linter.unnecessarySimpa false
namespace Go.Own.Q
open Go Go.Proofs

def largeC (c : Int) : Bool := (decide (65 ≤ c) && decide (c ≤ 90)) || decide (c = 95)
theorem isLarge_ok (n : Nat) (x : Int) : p_impl_isLarge n x = some (largeC x) := by
 unfold p_impl_isLarge largeC
 cases decide (65 ≤ x) <;> cases decide (x ≤ 90) <;> rfl
theorem l3Large_ok (n : Nat) (c : UInt8) : p_spec_l3Large n (c.toNat : Int) = some (largeC c.toNat) := by
 unfold p_spec_l3Large largeC
 rw [wrap_u8, l1In_ok]
 cases decide (65 ≤ (c.toNat : Int)) <;> cases decide ((c.toNat : Int) ≤ 90) <;> rfl
theorem l3Small_ok (n : Nat) (c : UInt8) : p_spec_l3Small n (c.toNat : Int) = some (smallC c.toNat) := by
 unfold p_spec_l3Small smallC
 rw [wrap_u8, l1In_ok]; rfl
theorem l3Digit_ok (n : Nat) (c : UInt8) : p_spec_l3Digit n (c.toNat : Int) = some (figC c.toNat) := by
 unfold p_spec_l3Digit figC
 rw [wrap_u8, l1In_ok]; rfl
theorem isSmallC_ok (n : Nat) (x : Int) : p_impl_isSmall n x = some (smallC x) := isSmall_ok n x
theorem isFigC_ok (n : Nat) (x : Int) : p_impl_isFigure n x = some (figC x) := isFigure_ok n x
def wordC (c : UInt8) : Bool := smallC c.toNat || (largeC c.toNat || figC c.toNat)
theorem isWordByte_ok (n : Nat) (x : Int) : p_impl_isWordByte n x = some (smallC x || (largeC x || figC x)) := by
 unfold p_impl_isWordByte
 rw [isSmallC_ok, isLarge_ok, isFigC_ok]
 cases smallC x <;> cases largeC x <;> cases figC x <;> rfl
def varC (i : Nat) (c : UInt8) : Bool := largeC c.toNat || (!decide (i = 0) && (smallC c.toNat || figC c.toNat))
def varOk (s : List UInt8) : Bool := allI varC 0 s && (decide (1 ≤ (s.length : Int)) && decide ((s.length : Int) ≤ 20))
theorem spec_varOk_ok (n : Nat) (s : List UInt8) (h : s.length < n) (hn : s.length < 4611686018427387904) : p_spec_l3VarOk n s = some (varOk s) := by
 unfold p_spec_l3VarOk
 rw [loop_okI s varC (fun i c hc => by
  have hi := lt_len hc
  simp only [p_spec_l3VarOk_b1, lt_int hc, cond_true, ixs_nat, hc, Option.map_some, Option.bind_some, l3Large_ok, l3Small_ok, l3Digit_ok, wrap_succ (show i < 4611686018427387904 by omega), i_zero]
  unfold varC
  cases largeC (c.toNat : Int) <;> cases decide (i = 0) <;> cases smallC (c.toNat : Int) <;> cases figC (c.toNat : Int) <;> rfl) (by simp only [p_spec_l3VarOk_b1, not_lt_int, cond_false]) h]
 unfold varOk
 by_cases c : allI varC 0 s = true
 ·rw [if_pos c, c]; simp only [Option.bind_some, l1In_ok, Bool.true_and]
 ·rw [if_neg c]; simp only [Bool.not_eq_true] at c; rw [c]; rfl
theorem allI_word : ∀ (r : List UInt8) (i : Nat), 0 < i → allI varC i r = r.all wordC
 | [], i, h => rfl
 | c :: r, i, h => by
  have e : varC i c = wordC c := by
   unfold varC wordC
   rw [decide_eq_false (by omega)]
   cases largeC (c.toNat : Int) <;> cases smallC (c.toNat : Int) <;> cases figC (c.toNat : Int) <;> rfl
  simp only [allI, List.all_cons, allI_word r (i + 1) (by omega), e]
theorem impl_varOk_ok (n : Nat) (s : List UInt8) (h : s.length < n) (hn : s.length < 4611686018427387904) : p_impl_varOk n s = some (varOk s) := by
 unfold p_impl_varOk
 rw [loop_ok s wordC (fun i c hc => by
  have hi := lt_len hc
  simp only [p_impl_varOk_b1, lt_int hc, cond_true, ixs_nat, hc, Option.map_some, Option.bind_some, isWordByte_ok, wrap_succ (show i < 4611686018427387904 by omega)]
  unfold wordC
  cases smallC (c.toNat : Int) <;> cases largeC (c.toNat : Int) <;> cases figC (c.toNat : Int) <;> rfl) (by simp only [p_impl_varOk_b1, not_lt_int, cond_false]) h]
 unfold varOk
 cases s with
 | nil => rfl
 | cons c r =>
  have e : allI varC 0 (c :: r) = (largeC c.toNat && r.all wordC) := by
   simp only [allI, Nat.zero_add, allI_word r 1 (by omega)]
   unfold varC
   rw [decide_eq_true rfl]
   cases largeC (c.toNat : Int) <;> rfl
  have e2 : (c :: r).all wordC = (wordC c && r.all wordC) := List.all_cons
  have i0 : ixs (c :: r) (0 : Int) = some (c.toNat : Int) := rfl
  have hw : largeC c.toNat = true → wordC c = true := fun h => by unfold wordC; rw [h]; cases smallC (c.toNat : Int) <;> rfl
  rw [e, e2]
  generalize r.all wordC = q
  by_cases hq : (wordC c && q) = true
  ·rw [if_pos hq]
   simp only [Option.bind_some, inRange_ok, i0, isLarge_ok]
   have hq2 : q = true := by cases q with | true => rfl | false => simp at hq
   subst hq2
   cases decide (1 ≤ ((c :: r).length : Int)) <;> cases decide (((c :: r).length : Int) ≤ 20) <;> cases largeC (c.toNat : Int) <;> rfl
  ·rw [if_neg hq]
   cases hl : largeC (c.toNat : Int) with
   | false => rfl
   | true =>
    rw [hw hl] at hq
    cases q with
    | true => simp at hq
    | false => rfl
def xatomOk (s : List UInt8) : Bool := atomOk s && (!decide (s = [99, 97, 115, 101]) && (!decide (s = [111, 102]) && !decide (s = [101, 110, 100])))
theorem xAtomOk_ok (n : Nat) (s : List UInt8) (h : s.length < n) (hn : s.length < 4611686018427387904) : p_impl_xAtomOk n s = some (xatomOk s) := by
 unfold p_impl_xAtomOk xatomOk
 rw [impl_AtomOk_ok n s h hn, Option.bind_some]
 generalize decide (s = [99, 97, 115, 101]) = a
 generalize decide (s = [111, 102]) = b
 generalize decide (s = [101, 110, 100]) = c
 cases atomOk s <;> cases a <;> cases b <;> cases c <;> rfl
theorem l4Atom_ok (n : Nat) (s : List UInt8) (h : s.length < n) (hn : s.length < 4611686018427387904) : p_spec_l4Atom n s = some (xatomOk s) := by
 unfold p_spec_l4Atom xatomOk p_spec_l4Reserved
 rw [spec_AtomOk_ok n s h hn, Option.bind_some]
 generalize decide (s = [99, 97, 115, 101]) = a
 generalize decide (s = [111, 102]) = b
 generalize decide (s = [101, 110, 100]) = c
 cases atomOk s <;> cases a <;> cases b <;> cases c <;> rfl
def opOk (s : List UInt8) : Bool := decide (s = [43]) || (decide (s = [45]) || (decide (s = [42]) || (decide (s = [61, 61]) || decide (s = [60]))))
theorem isOp_ok (n : Nat) (s : List UInt8) : p_impl_isOp n s = some (opOk s) := by
 unfold p_impl_isOp opOk
 generalize decide (s = [43]) = a
 generalize decide (s = [45]) = b
 generalize decide (s = [42]) = c
 generalize decide (s = [61, 61]) = d
 generalize decide (s = [60]) = e
 cases a <;> cases b <;> cases c <;> cases d <;> cases e <;> rfl
theorem l4Op_ok (n : Nat) (s : List UInt8) : p_spec_l4Op n s = some (opOk s) := by
 unfold p_spec_l4Op opOk
 generalize decide (s = [43]) = a
 generalize decide (s = [45]) = b
 generalize decide (s = [42]) = c
 generalize decide (s = [61, 61]) = d
 generalize decide (s = [60]) = e
 cases a <;> cases b <;> cases c <;> cases d <;> cases e <;> rfl

/-! lists of words -/
theorem index_ok (n : Nat) (l : List (List UInt8)) (s : List UInt8) (hn : l.length < n) (h2 : n < 4611686018427387904) : p_slices_Index_cf0e n l s = some (fidx (fun a => decide (s = a)) 0 l) := by
 unfold p_slices_Index_cf0e
 have e := loop_find (body := p_slices_Index_cf0e_b1 n l s) l (fun a => decide (s = a)) (fun i => (i : Int)) (fun i => Sum.inl (i : Int)) (Sum.inr ((l.length : Int), false)) (fun i a ha => by
  have hi := lt_len ha
  simp only [p_slices_Index_cf0e_b1, lt_int ha, cond_true, ix_nat, ha, Option.bind_some, wrap_succ (show i < 4611686018427387904 by omega)]
  cases decide (s = a) <;> rfl) (by simp only [p_slices_Index_cf0e_b1, not_lt_int, cond_false]) hn
 refine (congrArg (fun q => Option.bind q _) e).trans ?_
 rcases fidx_get (fun a => decide (s = a)) l 0 with ⟨h, _⟩ | ⟨k, a, h, _⟩
 ·rw [h]; rfl
 ·rw [h, decide_eq_false (by omega)]
  simp only [Option.bind_some, cond_false, Int.toNat_natCast]
theorem contains_ok (n : Nat) (l : List (List UInt8)) (s : List UInt8) (hn : l.length < n) (h2 : n < 4611686018427387904) : p_slices_Contains_35c2 n l s = some (decide (s ∈ l)) := by
 unfold p_slices_Contains_35c2
 rw [index_ok n l s hn h2]
 simp only [Option.bind_some, Option.some.injEq]
 rcases fidx_get (fun a => decide (s = a)) l 0 with ⟨h, h1⟩ | ⟨k, a, h, h1, h3, _⟩
 ·rw [h, decide_eq_false (by omega), decide_eq_false (fun hm => by have := h1 s hm; simp at this)]
 ·simp only [decide_eq_true_eq] at h3
  subst h3
  rw [h, decide_eq_true (by omega), decide_eq_true (List.mem_of_getElem? h1)]
def once (l : List (List UInt8)) : Bool := allI (fun i a => !(decide (a ∈ l.take i))) 0 l
theorem once_iff (l : List (List UInt8)) : once l = true ↔ l.Nodup := by
 unfold once
 rw [allI_iff, List.Nodup, List.pairwise_iff_getElem]
 constructor
 ·intro h i j hi hj hij e
  have := h j l[j] (List.getElem?_eq_getElem hj)
  simp only [Nat.zero_add, Bool.not_eq_true', decide_eq_false_iff_not] at this
  exact this (by rw [← e]; exact List.mem_take_iff_getElem.2 ⟨i, by omega, rfl⟩)
 ·intro h j a ha
  simp only [Nat.zero_add, Bool.not_eq_true', decide_eq_false_iff_not]
  intro hm
  obtain ⟨i, hi, e⟩ := List.mem_take_iff_getElem.1 hm
  obtain ⟨hj, rfl⟩ := List.getElem?_eq_some_iff.1 ha
  exact h i j (by omega) hj (by omega) e
theorem sub_to {α : Type} {l : List α} {i : Nat} (h : i ≤ l.length) : sub l none (some (i : Int)) = some (l.take i) := by
 unfold sub bnd
 rw [if_pos ⟨by simp, by simp only [Option.getD_none, Option.getD_some]; omega, by simp only [Option.getD_some]; omega⟩]
 simp
theorem l4Has_ok (n : Nat) (l : List (List UInt8)) (s : List UInt8) (hn : l.length < n) (h2 : n < 4611686018427387904) : p_spec_l4Has n l s = some (decide (s ∈ l)) := by
 unfold p_spec_l4Has
 have e := loop_find (body := p_spec_l4Has_b1 n l s) l (fun a => decide (a = s)) (fun i => (i : Int)) (fun i => Sum.inl true) (Sum.inr ((l.length : Int), false)) (fun i a ha => by
  have hi := lt_len ha
  simp only [p_spec_l4Has_b1, lt_int ha, cond_true, ix_nat, ha, Option.bind_some, wrap_succ (show i < 4611686018427387904 by omega)]
  cases decide (a = s) <;> rfl) (by simp only [p_spec_l4Has_b1, not_lt_int, cond_false]) hn
 refine (congrArg (fun q => Option.bind q _) e).trans ?_
 rcases fidx_get (fun a => decide (a = s)) l 0 with ⟨h, h1⟩ | ⟨k, a, h, h1, h3, _⟩
 ·rw [h, decide_eq_true (show (-1 : Int) < 0 by omega), decide_eq_false (show ¬ s ∈ l from fun hm => by have := h1 s hm; simp at this)]; rfl
 ·simp only [decide_eq_true_eq] at h3
  subst h3
  rw [h, decide_eq_false (by omega), decide_eq_true (List.mem_of_getElem? h1)]
  rfl
theorem l4Once_ok (n : Nat) (l : List (List UInt8)) (hn : l.length < n) (h2 : n < 4611686018427387904) : p_spec_l4Once n l = some (once l) := by
 unfold p_spec_l4Once
 rw [loop_okI l (fun i a => !(decide (a ∈ l.take i))) (fun i a ha => by
  have hi := lt_len ha
  simp only [p_spec_l4Once_b1, lt_int ha, cond_true, ix_nat, ha, Option.bind_some, wrap_succ (show i < 4611686018427387904 by omega), sub_to (show i ≤ l.length by omega), l4Has_ok n (l.take i) a (by rw [List.length_take]; omega) h2]
  cases decide (a ∈ l.take i) <;> rfl) (by simp only [p_spec_l4Once_b1, not_lt_int, cond_false]) hn]
 unfold once
 cases allI (fun i a => !(decide (a ∈ l.take i))) 0 l <;> rfl
end Go.Own.Q
