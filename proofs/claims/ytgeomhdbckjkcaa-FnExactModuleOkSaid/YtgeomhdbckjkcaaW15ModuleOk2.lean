/- When a module is right, put together; in plain Lean. No conditions. -/
import Derived.Test.YtgeomhdbckjkcaaW15ModuleOk
set_option linter.unusedVariables false
set_option linter.unusedSimpArgs false
set_option linter.unnecessarySimpa false
namespace Go.Own.Q
open Go Go.Proofs

def nameOk (s : List UInt8) : Bool := varOk s && !decide (s = [95])
def funB (f : S_impl_Fun) : Bool := f.f1.all nameOk && (xatomOk f.f0 && (decide ((f.f1.length : Int) ≤ 4) && exprOk (fx f)))
theorem wFun_e (f : S_impl_Fun) : wFun f = 3 + f.f0.length + dl List.length f.f1 + wExpr (fx f) := rfl
theorem dl_str {l : List (List UInt8)} {s : List UInt8} (h : s ∈ l) : s.length < dl List.length l := dl_mem List.length h
theorem impl_funOk_ok (n : Nat) (hn : n ≤ 1099511627776) (f : S_impl_Fun) (h : wFun f + 400 < n) : p_impl_funOk n f.f0 f.f1 f.f2 f.f3 f.f4 f.f5 f.f6 = some (funB f) := by
  rw [wFun_e] at h
  have hl := dl_len List.length f.f1
  unfold p_impl_funOk funB
  rw [loop_ok f.f1 nameOk (fun i a ha => by
    have hi := lt_len ha
    have hs := dl_str (List.mem_of_getElem? ha)
    simp only [p_impl_funOk_b1, lt_int ha, cond_true, ix_nat, ha, Option.bind_some, impl_varOk_ok n a (by omega) (by omega), wrap_succ (show i < 4611686018427387904 by omega)]
    unfold nameOk
    generalize decide (a = [95]) = z
    cases varOk a <;> cases z <;> rfl) (by simp only [p_impl_funOk_b1, not_lt_int, cond_false]) (by omega)]
  have he : p_impl_ExprOk n f.f2 f.f3 f.f4 f.f5 f.f6 = some (exprOk (fx f)) := impl_ExprOk_ok n hn (fx f) (by omega)
  rw [xAtomOk_ok n f.f0 (by omega) (by omega), he]
  cases f.f1.all nameOk <;> cases xatomOk f.f0 <;> cases decide ((f.f1.length : Int) ≤ 4) <;> rfl
theorem l5FunOk_ok (n : Nat) (hn : n ≤ 1099511627776) (f : S_impl_Fun) (h : wFun f + 400 < n) : p_spec_l5FunOk n f.f0 f.f1 f.f2 f.f3 f.f4 f.f5 f.f6 = some (funB f) := by
  rw [wFun_e] at h
  have hl := dl_len List.length f.f1
  unfold p_spec_l5FunOk funB
  rw [loop_ok f.f1 nameOk (fun i a ha => by
    have hi := lt_len ha
    have hs := dl_str (List.mem_of_getElem? ha)
    simp only [p_spec_l5FunOk_b1, lt_int ha, cond_true, ix_nat, ha, Option.bind_some, spec_varOk_ok n a (by omega) (by omega), wrap_succ (show i < 4611686018427387904 by omega)]
    unfold nameOk
    generalize decide (a = [95]) = z
    cases varOk a <;> cases z <;> rfl) (by simp only [p_spec_l5FunOk_b1, not_lt_int, cond_false]) (by omega)]
  have he : p_spec_ExprOk n f.f2 f.f3 f.f4 f.f5 f.f6 = some (exprOk (fx f)) := spec_ExprOk_ok n hn (fx f) (by omega)
  rw [l4Atom_ok n f.f0 (by omega) (by omega), he]
  cases f.f1.all nameOk <;> cases xatomOk f.f0 <;> cases decide ((f.f1.length : Int) ≤ 4) <;> rfl
def writeB (m : List S_impl_Fun) : Bool := m.all funB && decide ((m.length : Int) ≤ 12)
theorem canWrite_ok (n : Nat) (hn : n ≤ 1099511627776) (m : List S_impl_Fun) (h : dl wFun m + 400 < n) : p_impl_canWrite n m = some (writeB m) := by
  have hl := dl_len wFun m
  unfold p_impl_canWrite writeB
  rw [loop_ok m funB (fun i a ha => by
    have hi := lt_len ha
    have hd := dl_mem wFun (List.mem_of_getElem? ha)
    simp only [p_impl_canWrite_b1, lt_int ha, cond_true, ix_nat, ha, Option.bind_some, impl_funOk_ok n hn a (by omega), wrap_succ (show i < 4611686018427387904 by omega)]
    cases funB a <;> rfl) (by simp only [p_impl_canWrite_b1, not_lt_int, cond_false]) (by omega)]
  cases m.all funB <;> rfl
theorem l5ModuleOk_ok (n : Nat) (hn : n ≤ 1099511627776) (m : List S_impl_Fun) (h : dl wFun m + 400 < n) : p_spec_l5ModuleOk n m = some (writeB m) := by
  have hl := dl_len wFun m
  unfold p_spec_l5ModuleOk writeB
  rw [loop_ok m funB (fun i a ha => by
    have hi := lt_len ha
    have hd := dl_mem wFun (List.mem_of_getElem? ha)
    simp only [p_spec_l5ModuleOk_b1, lt_int ha, cond_true, ix_nat, ha, Option.bind_some, l5FunOk_ok n hn a (by omega), wrap_succ (show i < 4611686018427387904 by omega)]
    cases funB a <;> rfl) (by simp only [p_spec_l5ModuleOk_b1, not_lt_int, cond_false]) (by omega)]
  cases m.all funB <;> rfl

/-- The first place of each is its own. -/
theorem once_idx (l : List (List UInt8)) : allI (fun i a => decide (fidx (fun b => decide (a = b)) 0 l = (i : Int))) 0 l = once l := by
  unfold once
  rw [Bool.eq_iff_iff, allI_iff, allI_iff]
  refine forall_congr' fun j => forall_congr' fun a => imp_congr_right fun ha => ?_
  simp only [Nat.zero_add, decide_eq_true_eq, Bool.not_eq_true', decide_eq_false_iff_not]
  have hj := lt_len ha
  rcases fidx_get (fun b => decide (a = b)) l 0 with ⟨h, h1⟩ | ⟨k, b, h, h1, h2, h3⟩
  · have := h1 a (List.mem_of_getElem? ha)
    simp at this
  · rw [h]
    simp only [decide_eq_true_eq] at h2
    subst h2
    constructor
    · intro e hm
      have ek : k = j := by omega
      subst ek
      obtain ⟨i, hi, e2⟩ := List.mem_take_iff_getElem.1 hm
      have := h3 i a (by omega) (List.getElem?_eq_some_iff.2 ⟨by omega, e2⟩)
      simp at this
    · intro hm
      by_cases hk : k < j
      · exact absurd (List.mem_take_iff_getElem.2 ⟨k, by omega, (List.getElem?_eq_some_iff.1 h1).2⟩) hm
      · by_cases hk2 : j < k
        · have := h3 j a hk2 ha
          simp at this
        · omega
def freeB (f : S_impl_Fun) : Bool := (fl (fx f)).all fun s => decide (s ∈ f.f1)
theorem free_all {L : List (List UInt8)} {f : S_impl_Fun} (h : ∀ s, s ∈ L ↔ s ∈ fl (fx f)) : L.all (fun s => decide (s ∈ f.f1)) = freeB f := by
  unfold freeB
  rw [Bool.eq_iff_iff, List.all_eq_true, List.all_eq_true]
  exact forall_congr' fun s => by rw [h]
def inB (m : List S_impl_Fun) (f : S_impl_Fun) : Bool := once f.f1 && (freeB f && calls m (fx f))
theorem funIn_ok (n : Nat) (hn : n ≤ 1099511627776) (m : List S_impl_Fun) (f : S_impl_Fun) (h : wFun f + m.length + 400 < n) : p_impl_funIn n m f.f0 f.f1 f.f2 f.f3 f.f4 f.f5 f.f6 = some (inB m f) := by
  rw [wFun_e] at h
  have hl := dl_len List.length f.f1
  unfold p_impl_funIn inB
  rw [loop_okI f.f1 (fun i a => decide (fidx (fun b => decide (a = b)) 0 f.f1 = (i : Int))) (fun i a ha => by
    have hi := lt_len ha
    simp only [p_impl_funIn_b1, lt_int ha, cond_true, ix_nat, ha, Option.bind_some, index_ok n f.f1 a (by omega) (by omega), wrap_succ (show i < 4611686018427387904 by omega)]
    cases decide (fidx (fun b => decide (a = b)) 0 f.f1 = (i : Int)) <;> rfl) (by simp only [p_impl_funIn_b1, not_lt_int, cond_false]) (by omega), once_idx]
  cases once f.f1 with
  | false => rfl
  | true =>
    simp only [if_true, Option.bind_some, Bool.true_and]
    obtain ⟨L, l1, l2, l3⟩ := impl_FreeOf_ok n hn (fx f) (by omega)
    have l1 : p_impl_FreeOf n f.f2 f.f3 f.f4 f.f5 f.f6 = some L := l1
    rw [l1, Option.bind_some]
    rw [loop_ok L (fun s => decide (s ∈ f.f1)) (fun i a ha => by
      have hi := lt_len ha
      simp only [p_impl_funIn_b2, lt_int ha, cond_true, ix_nat, ha, Option.bind_some, contains_ok n f.f1 a (by omega) (by omega), wrap_succ (show i < 4611686018427387904 by omega)]
      cases decide (a ∈ f.f1) <;> rfl) (by simp only [p_impl_funIn_b2, not_lt_int, cond_false]) (by omega), free_all l2]
    have e : p_impl_eachCall n f.f2 f.f3 f.f4 f.f5 f.f6 m true = some (m, true && calls m (fx f)) := eachCall_ok n hn m (fx f) true (by omega)
    rw [e]
    cases freeB f <;> rfl
def moduleB (m : List S_impl_Fun) : Bool := writeB m && allI (fun i f => decide (funAt m f.f0 = (i : Int)) && inB m f) 0 m
theorem impl_ModuleOk_ok (n : Nat) (hn : n ≤ 1099511627776) (m : List S_impl_Fun) (h : dl wFun m + m.length + 400 < n) : p_impl_ModuleOk n m = some (moduleB m) := by
  have hl := dl_len wFun m
  unfold p_impl_ModuleOk moduleB
  rw [canWrite_ok n hn m (by omega), Option.bind_some]
  rw [loop_okI m (fun i f => decide (funAt m f.f0 = (i : Int)) && inB m f) (fun i a ha => by
    have hi := lt_len ha
    have hd := dl_mem wFun (List.mem_of_getElem? ha)
    simp only [p_impl_ModuleOk_b1, lt_int ha, cond_true, ix_nat, ha, Option.bind_some, impl_FunAt_ok n m a.f0 (by omega) (by omega), funIn_ok n hn m a (by omega), wrap_succ (show i < 4611686018427387904 by omega)]
    cases decide (funAt m a.f0 = (i : Int)) <;> cases inB m a <;> rfl) (by simp only [p_impl_ModuleOk_b1, not_lt_int, cond_false]) (by omega)]
  cases writeB m <;> cases allI (fun i f => decide (funAt m f.f0 = (i : Int)) && inB m f) 0 m <;> rfl
theorem spec_ModuleOk_ok (n : Nat) (hn : n ≤ 1099511627776) (m : List S_impl_Fun) (h : dl wFun m + m.length + 400 < n) : p_spec_ModuleOk n m = some (moduleB m) := by
  have hl := dl_len wFun m
  unfold p_spec_ModuleOk moduleB
  rw [l5ModuleOk_ok n hn m (by omega), Option.bind_some]
  rw [loop_okI m (fun i f => decide (funAt m f.f0 = (i : Int)) && inB m f) (fun i a ha => by
    have hi := lt_len ha
    have hd := dl_mem wFun (List.mem_of_getElem? ha)
    have hw := wFun_e a
    have hl1 := dl_len List.length a.f1
    obtain ⟨L, l1, l2, l3⟩ := spec_FreeOf_ok n hn (fx a) (by omega)
    have l1 : p_spec_FreeOf n a.f2 a.f3 a.f4 a.f5 a.f6 = some L := l1
    have hc : p_spec_l6Calls n m a.f2 a.f3 a.f4 a.f5 a.f6 = some (calls m (fx a)) := l6Calls_ok n hn m (fx a) (by omega)
    simp only [p_spec_ModuleOk_b1, lt_int ha, cond_true, ix_nat, ha, Option.bind_some, l1, wrap_succ (show i < 4611686018427387904 by omega)]
    rw [loop_ok L (fun s => decide (s ∈ a.f1)) (fun j s hs => by
      have hj := lt_len hs
      simp only [p_spec_ModuleOk_b2, lt_int hs, cond_true, ix_nat, hs, Option.bind_some, l4Has_ok n a.f1 s (by omega) (by omega), wrap_succ (show j < 4611686018427387904 by omega)]
      cases decide (s ∈ a.f1) <;> rfl) (by simp only [p_spec_ModuleOk_b2, not_lt_int, cond_false]) (by omega), free_all l2]
    unfold inB
    rw [spec_FunAt_ok n m a.f0 (by omega) (by omega), l4Once_ok n a.f1 (by omega) (by omega), hc]
    simp only [Option.bind_some]
    cases decide (funAt m a.f0 = (i : Int)) <;> cases once a.f1 <;> cases freeB a <;> cases calls m (fx a) <;> rfl) (by simp only [p_spec_ModuleOk_b1, not_lt_int, cond_false]) (by omega)]
  cases writeB m <;> cases allI (fun i f => decide (funAt m f.f0 = (i : Int)) && inB m f) 0 m <;> rfl
end Go.Own.Q
