/- Sizes, copies, equality of the types, in plain Lean. No conditions. -/
import Derived.Test.YticdjfieofjcaaaW9pKit
set_option linter.unusedVariables false
set_option linter.unusedSimpArgs false
set_option linter.unnecessarySimpa false
namespace Go.Own.Q
open Go Go.Proofs
theorem S_laws_Term_eta (a : S_laws_Term) : S_laws_Term.mk a.f0 a.f1 a.f2 a.f3 = a := by cases a; rfl
theorem S_impl_Term_eta (a : S_impl_Term) : S_impl_Term.mk a.f0 a.f1 a.f2 a.f3 = a := by cases a; rfl
mutual
def zTerm : S_laws_Term → Nat
  | .mk _ _ s l => s.length + zTerms l
def zTerms : List S_laws_Term → Nat
  | [] => 0
  | x :: r => 1 + zTerm x + zTerms r
end
mutual
def wTerm : S_impl_Term → Nat
  | .mk _ _ s l => 3 + s.length + wTerms l
def wTerms : List S_impl_Term → Nat
  | [] => 1
  | x :: r => 1 + wTerm x + wTerms r
end
mutual
def cTerm : S_laws_Term → S_impl_Term
  | .mk a b s l => .mk a b s (cTerms l)
def cTerms : List S_laws_Term → List S_impl_Term
  | [] => []
  | x :: r => cTerm x :: cTerms r
end
mutual
def dTerm : S_laws_Term → Nat
  | .mk _ _ s l => 3 + s.length + dTerms l
def dTerms : List S_laws_Term → Nat
  | [] => 1
  | x :: r => 1 + dTerm x + dTerms r
end
mutual
def okTerm : S_laws_Term → Prop
  | .mk a b s l => (IntKind.i64.min ≤ a ∧ a ≤ IntKind.i64.max) ∧ (IntKind.i64.min ≤ b ∧ b ≤ IntKind.i64.max) ∧ s.length ≤ maxLen ∧ l.length ≤ maxLen ∧ okTerms l
def okTerms : List S_laws_Term → Prop
  | [] => True
  | x :: r => okTerm x ∧ okTerms r
end
theorem cTerm_mk {a0 a1 : Int} {a2 : List UInt8} {a3 : List S_laws_Term} : cTerm (.mk a0 a1 a2 a3) = .mk a0 a1 a2 (cTerms a3) := by simp only [cTerm]
theorem zTerms_zl : ∀ l, zTerms l = zl zTerm l
  | [] => rfl
  | x :: r => by simp only [zTerms, zl, sumz, zTerms_zl r, List.length_cons]; omega
theorem dTerms_dl : ∀ l, dTerms l = dl dTerm l
  | [] => rfl
  | x :: r => by simp only [dTerms, dl, dTerms_dl r]
theorem wTerms_dl : ∀ l, wTerms l = dl wTerm l
  | [] => rfl
  | x :: r => by simp only [wTerms, dl, wTerms_dl r]
theorem cTerms_map : ∀ l, cTerms l = l.map cTerm
  | [] => rfl
  | x :: r => by simp only [cTerms, cTerms_map r, List.map_cons]
theorem okTerms_iff : ∀ l, okTerms l ↔ ∀ a ∈ l, okTerm a
  | [] => by simp [okTerms]
  | x :: r => by simp [okTerms, okTerms_iff r]
mutual
theorem wTerm_c : ∀ x, wTerm (cTerm x) = dTerm x
  | .mk a b s l => by simp only [cTerm, wTerm, dTerm, wTerms_c l]
theorem wTerms_c : ∀ l, wTerms (cTerms l) = dTerms l
  | [] => rfl
  | x :: r => by simp only [cTerms, wTerms, dTerms, wTerm_c x, wTerms_c r]
end
theorem dl_cTerm (l : List S_laws_Term) : dl wTerm (cTerms l) = dl dTerm l := by rw [← wTerms_dl, ← dTerms_dl, wTerms_c]
mutual
theorem dTerm_z : ∀ x, dTerm x ≤ 5 * zTerm x + 4
  | .mk a b s l => by have := dTerms_z l; simp only [dTerm, zTerm]; omega
theorem dTerms_z : ∀ l, dTerms l ≤ 5 * zTerms l + 1
  | [] => by simp [dTerms]
  | x :: r => by have := dTerm_z x; have := dTerms_z r; simp only [dTerms, zTerms]; omega
end
theorem szTerm_oks : ∀ (n : Nat), (∀ (a0 a1 : Int) (a2 : List UInt8) (a3 : List S_laws_Term) (left : Int), dTerm (.mk a0 a1 a2 a3) < n → okTerm (.mk a0 a1 a2 a3) → 0 ≤ left → left ≤ 1048576 → p_laws_szTerm n a0 a1 a2 a3 left = some (if (zTerm (.mk a0 a1 a2 a3) : Int) ≤ left then left - zTerm (.mk a0 a1 a2 a3) else -1)) ∧ ∀ (l : List S_laws_Term) (left : Int), dl dTerm l < n → l.length ≤ maxLen → (∀ a ∈ l, okTerm a) → 0 ≤ left → left ≤ 1048576 → p_laws_szTermS n l left = some (if (zl zTerm l : Int) ≤ left then left - zl zTerm l else -1)
  | 0 => ⟨fun a0 a1 a2 a3 left h => by omega, fun l left h => by omega⟩
  | n + 1 => by
    obtain ⟨ih1, ih2⟩ := szTerm_oks n
    refine ⟨fun a0 a1 a2 a3 left h ho h0 h1 => ?_, fun l left h hl ho h0 h1 => ?_⟩
    · rw [p_laws_szTerm_succ]
      unfold s_laws_szTerm
      simp only [dTerm, okTerm, zTerm, zTerms_zl, dTerms_dl] at h ho ⊢
      obtain ⟨_, _, o3, o4, o5⟩ := ho
      rw [sub_ok o3 h0 h1]
      by_cases c : left - (a2.length : Int) < 0
      · rw [decide_eq_true c, cond_true, if_neg (by omega)]
      rw [decide_eq_false c, cond_false]
      rw [ih2 a3 _ (by omega) o4 ((okTerms_iff _).1 o5) (by omega) (by omega)]
      by_cases c2 : (zl zTerm a3 : Int) ≤ left - a2.length
      · rw [if_pos c2, if_pos (by omega), Option.bind_some, decide_eq_false (by omega)]
        simp only [cond_false, Option.some.injEq]; omega
      · rw [if_neg c2, if_neg (by omega)]; rfl
    · rw [p_laws_szTermS_succ]
      unfold s_laws_szTermS
      have h2 := dl_len dTerm l
      have ez : zl zTerm l = l.length + sumz zTerm l := rfl
      rw [ez, sub_ok hl h0 h1]
      by_cases c : left - (l.length : Int) < 0
      · rw [decide_eq_true c, cond_true, if_neg (by omega)]
      rw [decide_eq_false c, cond_false]
      rw [loop_sz l zTerm (fun i a t ha t0 t1 => by
        have hm := List.mem_of_getElem? ha
        have hd := dl_mem dTerm hm
        have hi := lt_len ha
        have e := ih1 a.f0 a.f1 a.f2 a.f3 t (by rw [S_laws_Term_eta]; omega) (by rw [S_laws_Term_eta]; exact ho a hm) t0 t1
        rw [S_laws_Term_eta] at e
        simp only [p_laws_szTermS_b1, lt_int ha, cond_true, ix_nat, ha, Option.bind_some, e, wrap_succ (show i < 4611686018427387904 by simp only [maxLen] at hl; omega)]
        by_cases c2 : (zTerm a : Int) ≤ t
        · rw [if_pos c2, if_pos c2, decide_eq_false (by omega)]; rfl
        · rw [if_neg c2, if_neg c2]; rfl) (fun t => by simp only [p_laws_szTermS_b1, not_lt_int, cond_false]) (by omega) (by omega) (by omega)]
      by_cases c2 : (sumz zTerm l : Int) ≤ left - l.length
      · rw [if_pos c2, if_pos (by omega)]
        simp only [Option.bind_some, Option.some.injEq]; omega
      · rw [if_neg c2, if_neg (by omega)]; rfl
theorem szTerm_ok (n : Nat) {a0 a1 : Int} {a2 : List UInt8} {a3 : List S_laws_Term} {left : Int} (h : dTerm (.mk a0 a1 a2 a3) < n) (ho : okTerm (.mk a0 a1 a2 a3)) (h0 : 0 ≤ left) (h1 : left ≤ 1048576) : p_laws_szTerm n a0 a1 a2 a3 left = some (if (zTerm (.mk a0 a1 a2 a3) : Int) ≤ left then left - zTerm (.mk a0 a1 a2 a3) else -1) := (szTerm_oks n).1 _ _ _ _ _ h ho h0 h1
theorem szTermS_ok (n : Nat) (l : List S_laws_Term) (left : Int) (h : dl dTerm l < n) (hl : l.length ≤ maxLen) (ho : ∀ a ∈ l, okTerm a) (h0 : 0 ≤ left) (h1 : left ≤ 1048576) : p_laws_szTermS n l left = some (if (zl zTerm l : Int) ≤ left then left - zl zTerm l else -1) := (szTerm_oks n).2 _ _ h hl ho h0 h1
theorem toTerm_oks : ∀ (n : Nat), (∀ (a0 a1 : Int) (a2 : List UInt8) (a3 : List S_laws_Term), dTerm (.mk a0 a1 a2 a3) < n → zTerm (.mk a0 a1 a2 a3) ≤ 1048576 → p_laws_toTerm n a0 a1 a2 a3 = some (a0, a1, a2, cTerms a3)) ∧ ∀ (l : List S_laws_Term), dl dTerm l < n → zl zTerm l ≤ 1048576 → p_laws_toTermS n l = some (cTerms l)
  | 0 => ⟨fun a0 a1 a2 a3 h => by omega, fun l h => by omega⟩
  | n + 1 => by
    obtain ⟨ih1, ih2⟩ := toTerm_oks n
    refine ⟨fun a0 a1 a2 a3 h hz => ?_, fun l h hz => ?_⟩
    · rw [p_laws_toTerm_succ]
      unfold s_laws_toTerm
      simp only [dTerm, zTerm, zTerms_zl, dTerms_dl] at h hz
      simp only [ih2 a3 (by omega) (by omega), Option.bind_some]
    · rw [p_laws_toTermS_succ]
      unfold s_laws_toTermS
      have h2 := dl_len dTerm l
      have ez : zl zTerm l = l.length + sumz zTerm l := rfl
      have hc : decide (0 ≤ (l.length : Int) ∧ (l.length : Int) ≤ maxLen ∧ 56 * (l.length : Int) ≤ 281474976710656) = true := decide_eq_true ⟨by omega, by simp only [maxLen]; omega, by omega⟩
      rw [hc]
      simp only [ck, cond_true, Option.bind_some, Int.toNat_natCast]
      rw [loop_to l cTerm _ (fun i a o b ha hb => by
        have hm := List.mem_of_getElem? ha
        have hd := dl_mem dTerm hm
        have hi := lt_len ha
        have hs := sumz_mem zTerm hm
        simp only [p_laws_toTermS_b1, lt_int ha, cond_true, ix_nat, ha, hb, Option.bind_some, ih1 a.f0 a.f1 a.f2 a.f3 (by rw [S_laws_Term_eta]; omega) (by rw [S_laws_Term_eta]; omega), wrap_succ (show i < 4611686018427387904 by omega), Int.toNat_natCast, ← cTerm_mk, S_laws_Term_eta]) (fun o => by simp only [p_laws_toTermS_b1, not_lt_int, cond_false]) (by omega)]
      simp only [Option.bind_some, cTerms_map]
theorem toTerm_ok (n : Nat) {a0 a1 : Int} {a2 : List UInt8} {a3 : List S_laws_Term} (h : dTerm (.mk a0 a1 a2 a3) < n) (hz : zTerm (.mk a0 a1 a2 a3) ≤ 1048576) : p_laws_toTerm n a0 a1 a2 a3 = some ((cTerm (.mk a0 a1 a2 a3)).f0, (cTerm (.mk a0 a1 a2 a3)).f1, (cTerm (.mk a0 a1 a2 a3)).f2, (cTerm (.mk a0 a1 a2 a3)).f3) := by
  rw [(toTerm_oks n).1 _ _ _ _ h hz, cTerm_mk]; rfl
theorem toTermS_ok (n : Nat) (l : List S_laws_Term) (h : dl dTerm l < n) (hz : zl zTerm l ≤ 1048576) : p_laws_toTermS n l = some (cTerms l) := (toTerm_oks n).2 _ h hz
theorem eqTerm_oks : ∀ (n : Nat), n ≤ 4611686018427387904 → (∀ (a0 a1 : Int) (a2 : List UInt8) (a3 : List S_impl_Term), wTerm (.mk a0 a1 a2 a3) < n → p_laws_eqTerm n a0 a1 a2 a3 a0 a1 a2 a3 = some true) ∧ ∀ (l : List S_impl_Term), dl wTerm l < n → p_laws_eqTermS n l l = some true
  | 0, _ => ⟨fun a0 a1 a2 a3 h => by omega, fun l h => by omega⟩
  | n + 1, hn => by
    obtain ⟨ih1, ih2⟩ := eqTerm_oks n (by omega)
    refine ⟨fun a0 a1 a2 a3 h => ?_, fun l h => ?_⟩
    · rw [p_laws_eqTerm_succ]
      unfold s_laws_eqTerm
      simp only [wTerm, wTerms_dl] at h
      simp only [ih2 a3 (by omega), Option.bind_some, decide_true, Bool.not_true, cond_false]
    · rw [p_laws_eqTermS_succ]
      unfold s_laws_eqTermS
      have h2 := dl_len wTerm l
      simp only [decide_true, Bool.not_true, cond_false]
      rw [loop_eq l (fun i a ha => by
        have hm := List.mem_of_getElem? ha
        have hd := dl_mem wTerm hm
        have hi := lt_len ha
        simp only [p_laws_eqTermS_b1, lt_int ha, cond_true, ix_nat, ha, Option.bind_some, ih1 a.f0 a.f1 a.f2 a.f3 (by rw [S_impl_Term_eta]; omega), Bool.not_true, cond_false, wrap_succ (show i < 4611686018427387904 by omega)]) (by simp only [p_laws_eqTermS_b1, not_lt_int, cond_false]) (by omega)]
      simp only [Option.bind_some]
theorem eqTerm_ok (n : Nat) {a0 a1 : Int} {a2 : List UInt8} {a3 : List S_impl_Term} (h : wTerm (.mk a0 a1 a2 a3) < n) (hn : n ≤ 4611686018427387904) : p_laws_eqTerm n a0 a1 a2 a3 a0 a1 a2 a3 = some true := (eqTerm_oks n hn).1 _ _ _ _ h
theorem eqTermS_ok (n : Nat) (l : List S_impl_Term) (h : dl wTerm l < n) (hn : n ≤ 4611686018427387904) : p_laws_eqTermS n l l = some true := (eqTerm_oks n hn).2 _ h
structure _root_.Go.Own.S_laws_Worker where
  f0 : Int
  f1 : List UInt8
  f2 : List UInt8
  f3 : Int
  f4 : Int
  f5 : Int
  f6 : List UInt8
  f7 : List S_laws_Term
  f8 : List S_laws_Term
theorem S_laws_Worker_eta (a : S_laws_Worker) : S_laws_Worker.mk a.f0 a.f1 a.f2 a.f3 a.f4 a.f5 a.f6 a.f7 a.f8 = a := rfl
structure _root_.Go.Own.S_impl_Worker where
  f0 : Int
  f1 : List UInt8
  f2 : List UInt8
  f3 : Int
  f4 : Int
  f5 : Int
  f6 : List UInt8
  f7 : List S_impl_Term
  f8 : List S_impl_Term
theorem S_impl_Worker_eta (a : S_impl_Worker) : S_impl_Worker.mk a.f0 a.f1 a.f2 a.f3 a.f4 a.f5 a.f6 a.f7 a.f8 = a := rfl
def zWorker : S_laws_Worker → Nat
  | .mk a0 a1 a2 a3 a4 a5 a6 a7 a8 => a1.length + a2.length + zTerm (.mk a4 a5 a6 a7) + zl zTerm a8
def dWorker : S_laws_Worker → Nat
  | .mk a0 a1 a2 a3 a4 a5 a6 a7 a8 => 3 + a1.length + a2.length + dTerm (.mk a4 a5 a6 a7) + dl dTerm a8
def wWorker : S_impl_Worker → Nat
  | .mk a0 a1 a2 a3 a4 a5 a6 a7 a8 => 3 + a1.length + a2.length + wTerm (.mk a4 a5 a6 a7) + dl wTerm a8
def okWorker : S_laws_Worker → Prop
  | .mk a0 a1 a2 a3 a4 a5 a6 a7 a8 => (IntKind.i64.min ≤ a0 ∧ a0 ≤ IntKind.i64.max) ∧ (a1.length ≤ maxLen) ∧ (a2.length ≤ maxLen) ∧ (IntKind.i64.min ≤ a3 ∧ a3 ≤ IntKind.i64.max) ∧ (okTerm (.mk a4 a5 a6 a7)) ∧ (a8.length ≤ maxLen ∧ ∀ x ∈ a8, okTerm x)
def cWorker : S_laws_Worker → S_impl_Worker
  | .mk a0 a1 a2 a3 a4 a5 a6 a7 a8 => .mk a0 a1 a2 a3 (cTerm (.mk a4 a5 a6 a7)).f0 (cTerm (.mk a4 a5 a6 a7)).f1 (cTerm (.mk a4 a5 a6 a7)).f2 (cTerm (.mk a4 a5 a6 a7)).f3 (cTerms a8)
theorem szWorker_ok (n : Nat) {a0 : Int} {a1 : List UInt8} {a2 : List UInt8} {a3 : Int} {a4 : Int} {a5 : Int} {a6 : List UInt8} {a7 : List S_laws_Term} {a8 : List S_laws_Term} {left : Int} (h : dWorker (.mk a0 a1 a2 a3 a4 a5 a6 a7 a8) < n) (ho : okWorker (.mk a0 a1 a2 a3 a4 a5 a6 a7 a8)) (h0 : 0 ≤ left) (h1 : left ≤ 1048576) : p_laws_szWorker n a0 a1 a2 a3 a4 a5 a6 a7 a8 left = some (if (zWorker (.mk a0 a1 a2 a3 a4 a5 a6 a7 a8) : Int) ≤ left then left - zWorker (.mk a0 a1 a2 a3 a4 a5 a6 a7 a8) else -1) := by
  unfold p_laws_szWorker
  simp only [dWorker, okWorker] at h ho
  have ez : zWorker (.mk a0 a1 a2 a3 a4 a5 a6 a7 a8) = a1.length + a2.length + zTerm (.mk a4 a5 a6 a7) + zl zTerm a8 := rfl
  generalize zWorker (.mk a0 a1 a2 a3 a4 a5 a6 a7 a8) = zz at ez ⊢
  obtain ⟨o0, o1, o2, o3, o4, o5⟩ := ho
  rw [sub_ok o1 (by omega) (by omega)]
  by_cases q1 : left - ((a1.length : Nat) : Int) < 0
  · rw [decide_eq_true q1, cond_true, if_neg (by omega)]
  rw [decide_eq_false q1, cond_false]
  rw [sub_ok o2 (by omega) (by omega)]
  by_cases q2 : left - (a1.length : Nat) - ((a2.length : Nat) : Int) < 0
  · rw [decide_eq_true q2, cond_true, if_neg (by omega)]
  rw [decide_eq_false q2, cond_false]
  rw [szTerm_ok n (h := by omega) (ho := o4) (h0 := by omega) (h1 := by omega)]
  by_cases q3 : ((zTerm (.mk a4 a5 a6 a7) : Nat) : Int) ≤ left - (a1.length : Nat) - (a2.length : Nat)
  rotate_left
  · rw [if_neg q3, if_neg (by omega)]; rfl
  rw [if_pos q3, Option.bind_some, decide_eq_false (by omega), cond_false]
  rw [szTermS_ok n _ _ (by omega) o5.1 o5.2 (by omega) (by omega)]
  by_cases q4 : ((zl zTerm a8 : Nat) : Int) ≤ left - (a1.length : Nat) - (a2.length : Nat) - (zTerm (.mk a4 a5 a6 a7) : Nat)
  rotate_left
  · rw [if_neg q4, if_neg (by omega)]; rfl
  rw [if_pos q4, Option.bind_some, decide_eq_false (by omega), cond_false]
  rw [if_pos (by omega)]
  congr 1; omega
theorem toWorker_ok (n : Nat) {a0 : Int} {a1 : List UInt8} {a2 : List UInt8} {a3 : Int} {a4 : Int} {a5 : Int} {a6 : List UInt8} {a7 : List S_laws_Term} {a8 : List S_laws_Term} (h : dWorker (.mk a0 a1 a2 a3 a4 a5 a6 a7 a8) < n) (hz : zWorker (.mk a0 a1 a2 a3 a4 a5 a6 a7 a8) ≤ 1048576) : p_laws_toWorker n a0 a1 a2 a3 a4 a5 a6 a7 a8 = some ((cWorker (.mk a0 a1 a2 a3 a4 a5 a6 a7 a8)).f0, (cWorker (.mk a0 a1 a2 a3 a4 a5 a6 a7 a8)).f1, (cWorker (.mk a0 a1 a2 a3 a4 a5 a6 a7 a8)).f2, (cWorker (.mk a0 a1 a2 a3 a4 a5 a6 a7 a8)).f3, (cWorker (.mk a0 a1 a2 a3 a4 a5 a6 a7 a8)).f4, (cWorker (.mk a0 a1 a2 a3 a4 a5 a6 a7 a8)).f5, (cWorker (.mk a0 a1 a2 a3 a4 a5 a6 a7 a8)).f6, (cWorker (.mk a0 a1 a2 a3 a4 a5 a6 a7 a8)).f7, (cWorker (.mk a0 a1 a2 a3 a4 a5 a6 a7 a8)).f8) := by
  unfold p_laws_toWorker
  simp only [dWorker, zWorker] at h hz
  rw [toTerm_ok n (h := by omega) (hz := by omega)]
  try simp only [Option.bind_some]
  rw [toTermS_ok n _ (by omega) (by omega)]
  try simp only [Option.bind_some]
  rfl
theorem eqWorker_ok (n : Nat) {a0 : Int} {a1 : List UInt8} {a2 : List UInt8} {a3 : Int} {a4 : Int} {a5 : Int} {a6 : List UInt8} {a7 : List S_impl_Term} {a8 : List S_impl_Term} (h : wWorker (.mk a0 a1 a2 a3 a4 a5 a6 a7 a8) < n) (hn : n ≤ 4611686018427387904) : p_laws_eqWorker n a0 a1 a2 a3 a4 a5 a6 a7 a8 a0 a1 a2 a3 a4 a5 a6 a7 a8 = some true := by
  unfold p_laws_eqWorker
  simp only [wWorker] at h
  try simp only [decide_true, beq_self_eq_true, Bool.not_true, cond_false]
  rw [eqTerm_ok n (h := by omega) (hn := hn)]
  simp only [Option.bind_some, decide_true, beq_self_eq_true, Bool.not_true, cond_false]
  rw [eqTermS_ok n _ (by omega) hn]
  simp only [Option.bind_some, decide_true, beq_self_eq_true, Bool.not_true, cond_false]
theorem wWorker_c (a : S_laws_Worker) : wWorker (cWorker a) = dWorker a := by
  cases a
  simp only [cWorker, wWorker, dWorker, S_impl_Term_eta, wTerm_c, dl_cTerm]
theorem dWorker_z (a : S_laws_Worker) : dWorker a ≤ 5 * zWorker a + 8 := by
  obtain ⟨a0, a1, a2, a3, a4, a5, a6, a7, a8⟩ := a
  have := dTerm_z (.mk a4 a5 a6 a7)
  have := dl_le (A := 5) (B := 4) (C := 5) dTerm_z (by omega) (by omega) a8
  show 3 + a1.length + a2.length + dTerm (.mk a4 a5 a6 a7) + dl dTerm a8 ≤ 5 * (a1.length + a2.length + zTerm (.mk a4 a5 a6 a7) + zl zTerm a8) + 8
  omega
end Go.Own.Q
