/- What SendsOf answers, the program's and the reference's, in plain Lean. No conditions. -/
import Derived.Test.YticdjfieofjcaaaW5Qterm
set_option linter.unusedVariables false
set_option linter.unusedSimpArgs false
set_option linter.unnecessarySimpa false
namespace Go.Own
open Go Go.Proofs

def sendOk (x : S_impl_Term) : Bool := decide (x.f0 = 4) && (match x.f3 with | [a, _] => decide (a.f0 = 2) || decide (a.f0 = 3) | _ => false)
def sendOf (x : S_impl_Term) : S_impl_Send := match x.f3 with | [a, b] => .mk a.f0 a.f1 a.f2 a.f3 b.f0 b.f1 b.f2 b.f3 | _ => .mk 0 0 [] [] 0 0 [] []
def sendsR (k : Int) (l : List S_impl_Term) : List S_impl_Send × Bool := if k = 5 then (if l.all sendOk then (l.map sendOf, true) else ([], false)) else ([], false)

theorem sendOk_of {x : S_impl_Term} (h : sendOk x = true) : x.f0 = 4 ∧ ∃ a b, x.f3 = [a, b] ∧ (a.f0 = 2 ∨ a.f0 = 3) := by
  unfold sendOk at h
  split at h
  · rename_i a b e
    simp only [Bool.and_eq_true, Bool.or_eq_true, decide_eq_true_eq] at h
    exact ⟨h.1, a, b, e, h.2⟩
  · simp at h

theorem loopT_all {α β σ ρ : Type} {body : σ → Option (σ ⊕ ρ)} (l : List α) (ok : α → Bool) (st : Nat → σ) {good bad : ρ} (hs : ∀ (i : Nat) a, l[i]? = some a → ok a = true → body (st i) = some (.inl (st (i + 1)))) (hb : ∀ (i : Nat) a, l[i]? = some a → ok a = false → body (st i) = some (.inr bad))
    (he : body (st l.length) = some (.inr good)) {n : Nat} (hn : l.length < n) (f : ρ → Option β) : (loopN body n (st 0)).bind f = if l.all ok then f good else f bad := by
  rw [loop_all l ok st hs hb he hn]
  by_cases h : l.all ok = true
  · rw [if_pos h, if_pos h]; rfl
  · rw [if_neg h, if_neg h]; rfl

theorem impl_isAddress_ok (n : Nat) (x : S_impl_Term) : p_impl_isAddress n x.f0 x.f1 x.f2 x.f3 = some (decide (x.f0 = 2) || decide (x.f0 = 3)) := by
  unfold p_impl_isAddress
  by_cases h : x.f0 = 2 <;> simp [h]

theorem map_take_succ {α β : Type} (f : α → β) {l : List α} {i : Nat} {a : α} (h : l[i]? = some a) : (l.take i).map f ++ [f a] = (l.take (i + 1)).map f := by
  rw [← take_succ' h, List.map_append]; rfl

theorem impl_SendsOf_ok (n : Nat) (k m : Int) (s : List UInt8) (l : List S_impl_Term) (h : 2 * tszs l + 1 < n) (hn : n ≤ 1000000) : p_impl_SendsOf n k m s l = some (sendsR k l) := by
  unfold p_impl_SendsOf sendsR
  by_cases hk : k = 5
  · have hlen := tszs_len l
    simp only [hk, decide_true, Bool.not_true, cond_false, if_true]
    have key := loopT_all (β := List S_impl_Send × Bool) (body := p_impl_SendsOf_b1 n l) l sendOk (fun i => ((l.take i).map sendOf, (i : Int))) (good := .inr (l.map sendOf, (l.length : Int), false)) (bad := .inl ([], false)) (fun i x hx hok => by
      obtain ⟨h4, a, b, e, hab⟩ := sendOk_of hok
      have hi := lt_len hx
      have hi' : (i : Int) < (l.length : Int) := by omega
      have hm := tszs_mem (List.mem_of_getElem? hx)
      have hma : tsz a < tszs x.f3 := tszs_mem (by rw [e]; simp)
      have hmb : tsz b < tszs x.f3 := tszs_mem (by rw [e]; simp)
      have hxs := tsz_f3 x
      have hcl := impl_copy_ok n hn
      have ea : ix [a, b] (0 : Int) = some a := rfl
      have eb : ix [a, b] (1 : Int) = some b := rfl
      have e2 : ((([a, b] : List S_impl_Term).length : Int) = 2) = True := by simp
      have haa : (decide (a.f0 = 2) || decide (a.f0 = 3)) = true := by simpa using hab
      have es : sendOf x = .mk a.f0 a.f1 a.f2 a.f3 b.f0 b.f1 b.f2 b.f3 := by unfold sendOf; rw [e]
      simp only [p_impl_SendsOf_b1, hi', decide_true, cond_true, ix_nat, hx, Option.bind_some, h4, Bool.not_true, cond_false, e, e2, ea, eb, impl_isAddress_ok, haa, hcl.1 a (by omega), hcl.1 b (by omega)]
      rw [app2_of (by simp; omega) (by simp [maxLen]; omega)]
      simp only [Option.bind_some, ← es, map_take_succ sendOf hx, wrap_succ (show i < 4611686018427387904 by omega)]) (fun i x hx hok => by
      have hi := lt_len hx
      have hi' : (i : Int) < (l.length : Int) := by omega
      simp only [p_impl_SendsOf_b1, hi', decide_true, cond_true, ix_nat, hx, Option.bind_some]
      by_cases h4 : x.f0 = 4
      · simp only [h4, decide_true, Bool.not_true, cond_false]
        by_cases h2 : (x.f3.length : Int) = 2
        · obtain ⟨a, b, e⟩ : ∃ a b, x.f3 = [a, b] := by
            match hx3 : x.f3, h2 with
            | [a, b], _ => exact ⟨a, b, rfl⟩
            | [], h2 => simp at h2
            | [_], h2 => simp at h2
            | _ :: _ :: _ :: _, h2 => simp only [List.length_cons] at h2; omega
          have ea : ix [a, b] (0 : Int) = some a := rfl
          have haa : (decide (a.f0 = 2) || decide (a.f0 = 3)) = false := by
            unfold sendOk at hok
            rw [e] at hok
            simpa [h4] using hok
          have e2 : ((([a, b] : List S_impl_Term).length : Int) = 2) = True := by simp
          simp only [e, e2, decide_true, Bool.not_true, cond_false, ea, Option.bind_some, impl_isAddress_ok, haa, Bool.not_false, cond_true]
        · simp only [h2, decide_false, Bool.not_false, cond_true, Option.bind_some]
      · simp only [h4, decide_false, Bool.not_false, cond_true, Option.bind_some]) (by
      have hi' : ¬ (l.length : Int) < (l.length : Int) := by omega
      simp only [p_impl_SendsOf_b1, hi', decide_false, cond_false, List.take_length]) (n := n) (by omega)
    refine (key _).trans ?_
    split <;> rfl
  · simp only [hk, decide_false, Bool.not_false, cond_true, if_false]

theorem spec_SendsOf_ok (n : Nat) (k m : Int) (s : List UInt8) (l : List S_impl_Term) (h : tszs l < n) (hn : n ≤ 1000000) : p_spec_SendsOf n k m s l = some (sendsR k l) := by
  unfold p_spec_SendsOf sendsR
  by_cases hk : k = 5
  · have hlen := tszs_len l
    simp only [hk, decide_true, Bool.not_true, cond_false, if_true]
    have key := loopT_all (β := List S_impl_Send × Bool) (body := p_spec_SendsOf_b1 n l) l sendOk (fun i => ((l.take i).map sendOf, (i : Int))) (good := .inr (l.map sendOf, (l.length : Int), false)) (bad := .inl ([], false)) (fun i x hx hok => by
      obtain ⟨h4, a, b, e, hab⟩ := sendOk_of hok
      have hi := lt_len hx
      have hi' : (i : Int) < (l.length : Int) := by omega
      have hm := tszs_mem (List.mem_of_getElem? hx)
      have hma : tsz a < tszs x.f3 := tszs_mem (by rw [e]; simp)
      have hmb : tsz b < tszs x.f3 := tszs_mem (by rw [e]; simp)
      have hxs := tsz_f3 x
      have ea : ix [a, b] (0 : Int) = some a := rfl
      have eb : ix [a, b] (1 : Int) = some b := rfl
      have e2 : ((([a, b] : List S_impl_Term).length : Int) = 2) = True := by simp
      have es : sendOf x = .mk a.f0 a.f1 a.f2 a.f3 b.f0 b.f1 b.f2 b.f3 := by unfold sendOf; rw [e]
      have hd : (bif !decide (a.f0 = (2 : Int)) then some (!decide (a.f0 = (3 : Int))) else some false) = some false := by
        rcases hab with h | h <;> simp [h]
      simp only [p_spec_SendsOf_b1, hi', decide_true, cond_true, ix_nat, hx, Option.bind_some, h4, Bool.not_true, cond_false, e, e2, ea, eb, hd, spec_l2Copy_ok n a (by omega) hn, spec_l2Copy_ok n b (by omega) hn]
      rw [app2_of (by simp; omega) (by simp [maxLen]; omega)]
      simp only [Option.bind_some, ← es, map_take_succ sendOf hx, wrap_succ (show i < 4611686018427387904 by omega)]) (fun i x hx hok => by
      have hi := lt_len hx
      have hi' : (i : Int) < (l.length : Int) := by omega
      simp only [p_spec_SendsOf_b1, hi', decide_true, cond_true, ix_nat, hx, Option.bind_some]
      by_cases h4 : x.f0 = 4
      · simp only [h4, decide_true, Bool.not_true, cond_false]
        by_cases h2 : (x.f3.length : Int) = 2
        · obtain ⟨a, b, e⟩ : ∃ a b, x.f3 = [a, b] := by
            match hx3 : x.f3, h2 with
            | [a, b], _ => exact ⟨a, b, rfl⟩
            | [], h2 => simp at h2
            | [_], h2 => simp at h2
            | _ :: _ :: _ :: _, h2 => simp only [List.length_cons] at h2; omega
          have ea : ix [a, b] (0 : Int) = some a := rfl
          have haa : (decide (a.f0 = 2) || decide (a.f0 = 3)) = false := by
            unfold sendOk at hok
            rw [e] at hok
            simpa [h4] using hok
          simp only [Bool.or_eq_false_iff] at haa
          have e2 : ((([a, b] : List S_impl_Term).length : Int) = 2) = True := by simp
          simp only [e, e2, decide_true, Bool.not_true, cond_false, ea, Option.bind_some, haa.1, haa.2, Bool.not_false, cond_true]
        · simp only [h2, decide_false, Bool.not_false, cond_true, Option.bind_some]
      · simp only [h4, decide_false, Bool.not_false, cond_true, Option.bind_some]) (by
      have hi' : ¬ (l.length : Int) < (l.length : Int) := by omega
      simp only [p_spec_SendsOf_b1, hi', decide_false, cond_false, List.take_length]) (n := n) (by omega)
    refine (key _).trans ?_
    split <;> rfl
  · simp only [hk, decide_false, Bool.not_false, cond_true, if_false]
end Go.Own
