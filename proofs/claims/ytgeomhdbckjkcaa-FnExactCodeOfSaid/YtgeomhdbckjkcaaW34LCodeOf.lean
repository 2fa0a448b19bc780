/- The law FnExactCodeOf, put together. No conditions. -/
import Derived.Test.YtgeomhdbckjkcaaW34TabCopy2
set_option linter.unusedVariables false
set_option linter.unusedSimpArgs false
set_option linter.unnecessarySimpa false
namespace Go.Own.Q
open Go Go.Proofs
/-- What both answer. -/
def codeB (l : List S_impl_Entry) (s : List UInt8) (no : Int) : List S_impl_Fn × List S_impl_Pat × Bool :=
 match l[(entAt l s).toNat]? with
 | some e => bif decide (entAt l s < 0) then ([], [], false) else bif decide (e.f1 = no) then (e.f2, e.f3, true) else bif e.f4 && decide (IntKind.wrap .i64 (e.f1 - 1) = no) then (e.f5, e.f6, true) else ([], [], false)
 | none => ([], [], false)
theorem codeB_w (l : List S_impl_Entry) (s : List UInt8) (no : Int) : dl wFn (codeB l s no).1 + dl wPat (codeB l s no).2.1 ≤ dl wEntry l + 2 := by
 have e1 : dl wFn ([] : List S_impl_Fn) = 1 := rfl
 have e2 : dl wPat ([] : List S_impl_Pat) = 1 := rfl
 unfold codeB
 cases h : l[(entAt l s).toNat]? with
 | none => simp only [e1, e2]; omega
 | some e =>
  have hd := dl_mem wEntry (List.mem_of_getElem? h)
  rw [wEntry_e] at hd
  dsimp only
  cases decide (entAt l s < 0) with
  | true => simp only [cond_true, e1, e2]; omega
  | false =>
   cases decide (e.f1 = no) with
   | true => show dl wFn e.f2 + dl wPat e.f3 ≤ dl wEntry l + 2; omega
   | false => cases (e.f4 && decide (IntKind.wrap .i64 (e.f1 - 1) = no)) with
    | true => show dl wFn e.f5 + dl wPat e.f6 ≤ dl wEntry l + 2; omega
    | false => show dl wFn [] + dl wPat [] ≤ dl wEntry l + 2; rw [e1, e2]; omega
theorem code_ok (n : Nat) (hn : n ≤ 1099511627776) (l : List S_impl_Entry) (s : List UInt8) (no : Int) (h : dl wEntry l + 400 < n) : p_impl_CodeOf n l s no = some (codeB l s no) ∧ p_spec_CodeOf n l s no = some (codeB l s no) := by
 have l1 := dl_len wEntry l
 have z9 : p_spec_l9Copy n [] [] = some ([], []) := l9Copy_ok n hn [] [] (by show 1 < n; omega) (by show 1 < n; omega)
 unfold p_impl_CodeOf p_spec_CodeOf p_impl_codeOf p_spec_l12Code
 rw [entryAt_ok n l s (by omega) (by omega), l12At_ok n l s (by omega) (by omega)]
 simp only [Option.bind_some]
 unfold codeB
 rcases fidx_get (entP s) l 0 with ⟨h1, _⟩ | ⟨k, a, h1, h2, _⟩
 ·have h1 : entAt l s = -1 := h1
  rw [h1, decide_eq_true (show (-1 : Int) < 0 by omega)]
  simp only [cond_true, Option.bind_some, z9]
  cases l[Int.toNat (-1)]? <;> exact ⟨rfl, rfl⟩
 ·have h1 : entAt l s = (k : Int) := by rw [Nat.zero_add] at h1; exact h1
  have hd := dl_mem wEntry (List.mem_of_getElem? h2)
  rw [wEntry_e] at hd
  have c1 := copyCode_ok n hn a.f2 a.f3 (by omega) (by omega)
  have c2 := copyCode_ok n hn a.f5 a.f6 (by omega) (by omega)
  have c3 := l9Copy_ok n hn a.f2 a.f3 (by omega) (by omega)
  have c4 := l9Copy_ok n hn a.f5 a.f6 (by omega) (by omega)
  rw [h1, decide_eq_false (show ¬ (k : Int) < 0 by omega)]
  simp only [cond_false, ix_nat, h2, Option.bind_some, Int.toNat_natCast]
  cases decide (a.f1 = no) with
  | true => simp only [cond_true, Option.bind_some, c1, c3]; exact ⟨by first | trivial | rfl, by first | trivial | rfl⟩
  | false =>
   cases a.f4 with
   | false => simp only [cond_true, cond_false, Option.bind_some, Bool.false_and, z9]; exact ⟨by first | trivial | rfl, by first | trivial | rfl⟩
   | true =>
    cases decide (IntKind.wrap .i64 (a.f1 - 1) = no) with
    | false => simp only [cond_true, cond_false, Option.bind_some, Bool.and_false, z9]; exact ⟨by first | trivial | rfl, by first | trivial | rfl⟩
    | true => simp only [cond_true, cond_false, Option.bind_some, Bool.and_true, c2, c4]; exact ⟨by first | trivial | rfl, by first | trivial | rfl⟩
theorem law (l : List S_laws_Entry) (s : List UInt8) (no : Int) (ho : l.length ≤ maxLen ∧ ∀ a ∈ l, okEntry a) (hs : s.length ≤ maxLen) (_ : IntKind.i64.min ≤ no ∧ no ≤ IntKind.i64.max) : ∃ n, p_laws_FnExactCodeOf n l s no = some true := by
 refine ⟨dl dEntry l + s.length + 500, ?_⟩
 generalize hN : dl dEntry l + s.length + 500 = n
 unfold p_laws_FnExactCodeOf
 by_cases hs2 : (1048576 : Int) < (s.length : Int)
 ·rw [decide_eq_true hs2]; rfl
 ·rw [decide_eq_false hs2, cond_false, szEntryS_ok n l 1048576 (by omega) ho.1 ho.2 (by omega) (by omega)]
  by_cases hz : (zl zEntry l : Int) ≤ 1048576
  ·have hd := dl_le (C := 100) dEntry_z (by omega) (by omega) l
   rw [if_pos hz]
   simp only [Option.bind_some]
   rw [decide_eq_false (by omega), cond_false]
   rw [toEntryS_ok n l (by omega) (by omega)]
   simp only [Option.bind_some]
   have hc : dl wEntry (cEntrys l) = dl dEntry l := dl_cEntry l
   generalize cEntrys l = t at *
   have hn : n ≤ 1099511627776 := by omega
   obtain ⟨g1, g2⟩ := code_ok n hn t s no (by omega)
   have hw := codeB_w t s no
   rw [g1, g2]
   generalize (codeB t s no) = r at *
   obtain ⟨fs, ps, ok⟩ := r
   simp only at hw
   have e1 : ((1 : Nat) : Int) = 1 := rfl
   have k1 := eqCode_ok n (a0 := fs) (a1 := ps) (by show 3 + dl wFn fs + dl wPat ps < n; omega) (by omega)
   have k2 := eqEntryS_ok n t (by omega) (by omega)
   have m1 := markFnS_ok n hn fs 1 (by omega) (by omega) (by omega)
   have h1 := heldFnS_ok n hn fs 1 (by omega) (by omega) (by omega)
   have l1 := leFnS fs 1
   have r1 := geFnS fs 1
   have m2 := markPatS_ok n hn ps (mkFnS fs 1).1 (by omega) (by omega) (by omega)
   have h2 := heldPatS_ok n hn ps (mkFnS fs 1).1 (by omega) (by omega) (by omega)
   have r2 := gePatS ps (mkFnS fs 1).1
   have m3 := markEntryS_ok n hn t 1 (by omega) (by omega) (by omega)
   have r3 := geEntryS t 1
   have hc : p_laws_heldCode n (mkFnS fs 1).2 (mkPatS ps (mkFnS fs 1).1).2 (1 : Int) = some ((mkPatS ps (mkFnS fs 1).1).1 : Int) := by
    unfold p_laws_heldCode
    rw [e1] at h1
    simp only [h1, h2, Option.bind_some, decide_eq_false (show ¬ ((mkFnS fs 1).1 : Int) < 0 by omega), decide_eq_false (show ¬ ((mkPatS ps (mkFnS fs 1).1).1 : Int) < 0 by omega), cond_false]
   rw [e1] at m1 m3
   simp only [k1, k2, m1, m2, m3, hc, Option.bind_some, Bool.not_true, cond_false, beq_self_eq_true, decide_eq_false (show ¬ ((mkPatS ps (mkFnS fs 1).1).1 : Int) < 0 by omega), decide_eq_false (show ¬ ((mkEntryS t 1).1 : Int) < 0 by omega), decide_true]
  ·rw [if_neg hz]; rfl
end Go.Own.Q
