/- Sizes, copies, equality of the types, in plain Lean. No conditions. -/
import Derived.Test.YtgeomhdbckjkcaaW13Kit
set_option linter.unusedVariables false
set_option linter.unusedSimpArgs false
set_option linter.unnecessarySimpa false
namespace Go.Own.Q
open Go Go.Proofs
theorem szIntS_ok (n : Nat) {l : List Int} {left : Int} (hl : l.length ≤ maxLen) (h0 : 0 ≤ left) (h1 : left ≤ 1048576) : p_laws_szIntS n l left = some (if (l.length : Int) ≤ left then left - l.length else -1) := by
  unfold p_laws_szIntS
  rw [sub_ok hl h0 h1]
  by_cases c : left - (l.length : Int) < 0
  · rw [decide_eq_true c, cond_true, if_neg (by omega)]
  rw [decide_eq_false c, cond_false, if_pos (by omega)]
theorem toIntS_ok (n : Nat) (l : List Int) (h : dl (fun _ => 0) l < n) (hz : l.length ≤ 1048576) : p_laws_toIntS n l = some l := by
  unfold p_laws_toIntS
  have h2 := dl_len (fun _ => 0) l
  have hc : decide (0 ≤ (l.length : Int) ∧ (l.length : Int) ≤ maxLen ∧ 8 * (l.length : Int) ≤ 281474976710656) = true := decide_eq_true ⟨by omega, by simp only [maxLen]; omega, by omega⟩
  rw [hc]
  simp only [ck, cond_true, Option.bind_some, Int.toNat_natCast]
  rw [loop_to l id _ (fun i a o b ha hb => by
    have hi := lt_len ha
    simp only [p_laws_toIntS_b1, lt_int ha, cond_true, ix_nat, ha, hb, Option.bind_some, wrap_succ (show i < 4611686018427387904 by omega), Int.toNat_natCast, id]) (fun o => by simp only [p_laws_toIntS_b1, not_lt_int, cond_false]) (by omega)]
  simp
theorem eqIntS_ok (n : Nat) (l : List Int) (h : dl (fun _ => 0) l < n) (hn : n ≤ 4611686018427387904) : p_laws_eqIntS n l l = some true := by
  unfold p_laws_eqIntS
  have h2 := dl_len (fun _ => 0) l
  simp only [decide_true, Bool.not_true, cond_false]
  rw [loop_eq l (fun i a ha => by
    have hi := lt_len ha
    simp only [p_laws_eqIntS_b1, lt_int ha, cond_true, ix_nat, ha, Option.bind_some, decide_true, Bool.not_true, cond_false, wrap_succ (show i < 4611686018427387904 by omega)]) (by simp only [p_laws_eqIntS_b1, not_lt_int, cond_false]) (by omega)]
  rfl
theorem S_laws_Term_eta (a : S_laws_Term) : S_laws_Term.mk a.f0 a.f1 a.f2 a.f3 = a := by cases a; rfl
theorem S_impl_Term_eta (a : S_impl_Term) : S_impl_Term.mk a.f0 a.f1 a.f2 a.f3 = a := by cases a; rfl
mutual
def zTerm : S_laws_Term → Nat
  | .mk _ _ s l => s.length + zTerms l
def zTerms : List S_laws_Term → Nat
  | [] => 0
  | x :: r => 1 + zTerm x + zTerms r
end
mutual
def wTerm : S_impl_Term → Nat
  | .mk _ _ s l => 3 + s.length + wTerms l
def wTerms : List S_impl_Term → Nat
  | [] => 1
  | x :: r => 1 + wTerm x + wTerms r
end
mutual
def cTerm : S_laws_Term → S_impl_Term
  | .mk a b s l => .mk a b s (cTerms l)
def cTerms : List S_laws_Term → List S_impl_Term
  | [] => []
  | x :: r => cTerm x :: cTerms r
end
mutual
def dTerm : S_laws_Term → Nat
  | .mk _ _ s l => 3 + s.length + dTerms l
def dTerms : List S_laws_Term → Nat
  | [] => 1
  | x :: r => 1 + dTerm x + dTerms r
end
mutual
def okTerm : S_laws_Term → Prop
  | .mk a b s l => (IntKind.i64.min ≤ a ∧ a ≤ IntKind.i64.max) ∧ (IntKind.i64.min ≤ b ∧ b ≤ IntKind.i64.max) ∧ s.length ≤ maxLen ∧ l.length ≤ maxLen ∧ okTerms l
def okTerms : List S_laws_Term → Prop
  | [] => True
  | x :: r => okTerm x ∧ okTerms r
end
theorem cTerm_mk {a0 a1 : Int} {a2 : List UInt8} {a3 : List S_laws_Term} : cTerm (.mk a0 a1 a2 a3) = .mk a0 a1 a2 (cTerms a3) := by simp only [cTerm]
theorem zTerms_zl : ∀ l, zTerms l = zl zTerm l
  | [] => rfl
  | x :: r => by simp only [zTerms, zl, sumz, zTerms_zl r, List.length_cons]; omega
theorem dTerms_dl : ∀ l, dTerms l = dl dTerm l
  | [] => rfl
  | x :: r => by simp only [dTerms, dl, dTerms_dl r]
theorem wTerms_dl : ∀ l, wTerms l = dl wTerm l
  | [] => rfl
  | x :: r => by simp only [wTerms, dl, wTerms_dl r]
theorem cTerms_map : ∀ l, cTerms l = l.map cTerm
  | [] => rfl
  | x :: r => by simp only [cTerms, cTerms_map r, List.map_cons]
theorem okTerms_iff : ∀ l, okTerms l ↔ ∀ a ∈ l, okTerm a
  | [] => by simp [okTerms]
  | x :: r => by simp [okTerms, okTerms_iff r]
mutual
theorem wTerm_c : ∀ x, wTerm (cTerm x) = dTerm x
  | .mk a b s l => by simp only [cTerm, wTerm, dTerm, wTerms_c l]
theorem wTerms_c : ∀ l, wTerms (cTerms l) = dTerms l
  | [] => rfl
  | x :: r => by simp only [cTerms, wTerms, dTerms, wTerm_c x, wTerms_c r]
end
theorem dl_cTerm (l : List S_laws_Term) : dl wTerm (cTerms l) = dl dTerm l := by rw [← wTerms_dl, ← dTerms_dl, wTerms_c]
mutual
theorem dTerm_z : ∀ x, dTerm x ≤ 5 * zTerm x + 4
  | .mk a b s l => by have := dTerms_z l; simp only [dTerm, zTerm]; omega
theorem dTerms_z : ∀ l, dTerms l ≤ 5 * zTerms l + 1
  | [] => by simp [dTerms]
  | x :: r => by have := dTerm_z x; have := dTerms_z r; simp only [dTerms, zTerms]; omega
end
theorem szTerm_oks : ∀ (n : Nat), (∀ (a0 a1 : Int) (a2 : List UInt8) (a3 : List S_laws_Term) (left : Int), dTerm (.mk a0 a1 a2 a3) < n → okTerm (.mk a0 a1 a2 a3) → 0 ≤ left → left ≤ 1048576 → p_laws_szTerm n a0 a1 a2 a3 left = some (if (zTerm (.mk a0 a1 a2 a3) : Int) ≤ left then left - zTerm (.mk a0 a1 a2 a3) else -1)) ∧ ∀ (l : List S_laws_Term) (left : Int), dl dTerm l < n → l.length ≤ maxLen → (∀ a ∈ l, okTerm a) → 0 ≤ left → left ≤ 1048576 → p_laws_szTermS n l left = some (if (zl zTerm l : Int) ≤ left then left - zl zTerm l else -1)
  | 0 => ⟨fun a0 a1 a2 a3 left h => by omega, fun l left h => by omega⟩
  | n + 1 => by
    obtain ⟨ih1, ih2⟩ := szTerm_oks n
    refine ⟨fun a0 a1 a2 a3 left h ho h0 h1 => ?_, fun l left h hl ho h0 h1 => ?_⟩
    · rw [p_laws_szTerm_succ]
      unfold s_laws_szTerm
      simp only [dTerm, okTerm, zTerm, zTerms_zl, dTerms_dl] at h ho ⊢
      obtain ⟨_, _, o3, o4, o5⟩ := ho
      rw [sub_ok o3 h0 h1]
      by_cases c : left - (a2.length : Int) < 0
      · rw [decide_eq_true c, cond_true, if_neg (by omega)]
      rw [decide_eq_false c, cond_false]
      rw [ih2 a3 _ (by omega) o4 ((okTerms_iff _).1 o5) (by omega) (by omega)]
      by_cases c2 : (zl zTerm a3 : Int) ≤ left - a2.length
      · rw [if_pos c2, if_pos (by omega), Option.bind_some, decide_eq_false (by omega)]
        simp only [cond_false, Option.some.injEq]; omega
      · rw [if_neg c2, if_neg (by omega)]; rfl
    · rw [p_laws_szTermS_succ]
      unfold s_laws_szTermS
      have h2 := dl_len dTerm l
      have ez : zl zTerm l = l.length + sumz zTerm l := rfl
      rw [ez, sub_ok hl h0 h1]
      by_cases c : left - (l.length : Int) < 0
      · rw [decide_eq_true c, cond_true, if_neg (by omega)]
      rw [decide_eq_false c, cond_false]
      rw [loop_sz l zTerm (fun i a t ha t0 t1 => by
        have hm := List.mem_of_getElem? ha
        have hd := dl_mem dTerm hm
        have hi := lt_len ha
        have e := ih1 a.f0 a.f1 a.f2 a.f3 t (by rw [S_laws_Term_eta]; omega) (by rw [S_laws_Term_eta]; exact ho a hm) t0 t1
        rw [S_laws_Term_eta] at e
        simp only [p_laws_szTermS_b1, lt_int ha, cond_true, ix_nat, ha, Option.bind_some, e, wrap_succ (show i < 4611686018427387904 by simp only [maxLen] at hl; omega)]
        by_cases c2 : (zTerm a : Int) ≤ t
        · rw [if_pos c2, if_pos c2, decide_eq_false (by omega)]; rfl
        · rw [if_neg c2, if_neg c2]; rfl) (fun t => by simp only [p_laws_szTermS_b1, not_lt_int, cond_false]) (by omega) (by omega) (by omega)]
      by_cases c2 : (sumz zTerm l : Int) ≤ left - l.length
      · rw [if_pos c2, if_pos (by omega)]
        simp only [Option.bind_some, Option.some.injEq]; omega
      · rw [if_neg c2, if_neg (by omega)]; rfl
theorem szTerm_ok (n : Nat) {a0 a1 : Int} {a2 : List UInt8} {a3 : List S_laws_Term} {left : Int} (h : dTerm (.mk a0 a1 a2 a3) < n) (ho : okTerm (.mk a0 a1 a2 a3)) (h0 : 0 ≤ left) (h1 : left ≤ 1048576) : p_laws_szTerm n a0 a1 a2 a3 left = some (if (zTerm (.mk a0 a1 a2 a3) : Int) ≤ left then left - zTerm (.mk a0 a1 a2 a3) else -1) := (szTerm_oks n).1 _ _ _ _ _ h ho h0 h1
theorem szTermS_ok (n : Nat) (l : List S_laws_Term) (left : Int) (h : dl dTerm l < n) (hl : l.length ≤ maxLen) (ho : ∀ a ∈ l, okTerm a) (h0 : 0 ≤ left) (h1 : left ≤ 1048576) : p_laws_szTermS n l left = some (if (zl zTerm l : Int) ≤ left then left - zl zTerm l else -1) := (szTerm_oks n).2 _ _ h hl ho h0 h1
theorem toTerm_oks : ∀ (n : Nat), (∀ (a0 a1 : Int) (a2 : List UInt8) (a3 : List S_laws_Term), dTerm (.mk a0 a1 a2 a3) < n → zTerm (.mk a0 a1 a2 a3) ≤ 1048576 → p_laws_toTerm n a0 a1 a2 a3 = some (a0, a1, a2, cTerms a3)) ∧ ∀ (l : List S_laws_Term), dl dTerm l < n → zl zTerm l ≤ 1048576 → p_laws_toTermS n l = some (cTerms l)
  | 0 => ⟨fun a0 a1 a2 a3 h => by omega, fun l h => by omega⟩
  | n + 1 => by
    obtain ⟨ih1, ih2⟩ := toTerm_oks n
    refine ⟨fun a0 a1 a2 a3 h hz => ?_, fun l h hz => ?_⟩
    · rw [p_laws_toTerm_succ]
      unfold s_laws_toTerm
      simp only [dTerm, zTerm, zTerms_zl, dTerms_dl] at h hz
      simp only [ih2 a3 (by omega) (by omega), Option.bind_some]
    · rw [p_laws_toTermS_succ]
      unfold s_laws_toTermS
      have h2 := dl_len dTerm l
      have ez : zl zTerm l = l.length + sumz zTerm l := rfl
      have hc : decide (0 ≤ (l.length : Int) ∧ (l.length : Int) ≤ maxLen ∧ 56 * (l.length : Int) ≤ 281474976710656) = true := decide_eq_true ⟨by omega, by simp only [maxLen]; omega, by omega⟩
      rw [hc]
      simp only [ck, cond_true, Option.bind_some, Int.toNat_natCast]
      rw [loop_to l cTerm _ (fun i a o b ha hb => by
        have hm := List.mem_of_getElem? ha
        have hd := dl_mem dTerm hm
        have hi := lt_len ha
        have hs := sumz_mem zTerm hm
        simp only [p_laws_toTermS_b1, lt_int ha, cond_true, ix_nat, ha, hb, Option.bind_some, ih1 a.f0 a.f1 a.f2 a.f3 (by rw [S_laws_Term_eta]; omega) (by rw [S_laws_Term_eta]; omega), wrap_succ (show i < 4611686018427387904 by omega), Int.toNat_natCast, ← cTerm_mk, S_laws_Term_eta]) (fun o => by simp only [p_laws_toTermS_b1, not_lt_int, cond_false]) (by omega)]
      simp only [Option.bind_some, cTerms_map]
theorem toTerm_ok (n : Nat) {a0 a1 : Int} {a2 : List UInt8} {a3 : List S_laws_Term} (h : dTerm (.mk a0 a1 a2 a3) < n) (hz : zTerm (.mk a0 a1 a2 a3) ≤ 1048576) : p_laws_toTerm n a0 a1 a2 a3 = some ((cTerm (.mk a0 a1 a2 a3)).f0, (cTerm (.mk a0 a1 a2 a3)).f1, (cTerm (.mk a0 a1 a2 a3)).f2, (cTerm (.mk a0 a1 a2 a3)).f3) := by
  rw [(toTerm_oks n).1 _ _ _ _ h hz, cTerm_mk]; rfl
theorem toTermS_ok (n : Nat) (l : List S_laws_Term) (h : dl dTerm l < n) (hz : zl zTerm l ≤ 1048576) : p_laws_toTermS n l = some (cTerms l) := (toTerm_oks n).2 _ h hz
theorem eqTerm_oks : ∀ (n : Nat), n ≤ 4611686018427387904 → (∀ (a0 a1 : Int) (a2 : List UInt8) (a3 : List S_impl_Term), wTerm (.mk a0 a1 a2 a3) < n → p_laws_eqTerm n a0 a1 a2 a3 a0 a1 a2 a3 = some true) ∧ ∀ (l : List S_impl_Term), dl wTerm l < n → p_laws_eqTermS n l l = some true
  | 0, _ => ⟨fun a0 a1 a2 a3 h => by omega, fun l h => by omega⟩
  | n + 1, hn => by
    obtain ⟨ih1, ih2⟩ := eqTerm_oks n (by omega)
    refine ⟨fun a0 a1 a2 a3 h => ?_, fun l h => ?_⟩
    · rw [p_laws_eqTerm_succ]
      unfold s_laws_eqTerm
      simp only [wTerm, wTerms_dl] at h
      simp only [ih2 a3 (by omega), Option.bind_some, decide_true, Bool.not_true, cond_false]
    · rw [p_laws_eqTermS_succ]
      unfold s_laws_eqTermS
      have h2 := dl_len wTerm l
      simp only [decide_true, Bool.not_true, cond_false]
      rw [loop_eq l (fun i a ha => by
        have hm := List.mem_of_getElem? ha
        have hd := dl_mem wTerm hm
        have hi := lt_len ha
        simp only [p_laws_eqTermS_b1, lt_int ha, cond_true, ix_nat, ha, Option.bind_some, ih1 a.f0 a.f1 a.f2 a.f3 (by rw [S_impl_Term_eta]; omega), Bool.not_true, cond_false, wrap_succ (show i < 4611686018427387904 by omega)]) (by simp only [p_laws_eqTermS_b1, not_lt_int, cond_false]) (by omega)]
      simp only [Option.bind_some]
theorem eqTerm_ok (n : Nat) {a0 a1 : Int} {a2 : List UInt8} {a3 : List S_impl_Term} (h : wTerm (.mk a0 a1 a2 a3) < n) (hn : n ≤ 4611686018427387904) : p_laws_eqTerm n a0 a1 a2 a3 a0 a1 a2 a3 = some true := (eqTerm_oks n hn).1 _ _ _ _ h
theorem eqTermS_ok (n : Nat) (l : List S_impl_Term) (h : dl wTerm l < n) (hn : n ≤ 4611686018427387904) : p_laws_eqTermS n l l = some true := (eqTerm_oks n hn).2 _ h
theorem S_laws_Kid_eta (a : S_laws_Kid) : S_laws_Kid.mk a.f0 a.f1 a.f2 a.f3 a.f4 a.f5 a.f6 = a := rfl
theorem S_impl_Kid_eta (a : S_impl_Kid) : S_impl_Kid.mk a.f0 a.f1 a.f2 a.f3 a.f4 a.f5 a.f6 = a := rfl
def zKid : S_laws_Kid → Nat
  | .mk a0 a1 a2 a3 a4 a5 a6 => a0.length + a1.length + zTerm (.mk a2 a3 a4 a5)
def dKid : S_laws_Kid → Nat
  | .mk a0 a1 a2 a3 a4 a5 a6 => 3 + a0.length + a1.length + dTerm (.mk a2 a3 a4 a5)
def wKid : S_impl_Kid → Nat
  | .mk a0 a1 a2 a3 a4 a5 a6 => 3 + a0.length + a1.length + wTerm (.mk a2 a3 a4 a5)
def okKid : S_laws_Kid → Prop
  | .mk a0 a1 a2 a3 a4 a5 a6 => (a0.length ≤ maxLen) ∧ (a1.length ≤ maxLen) ∧ (okTerm (.mk a2 a3 a4 a5)) ∧ (IntKind.i64.min ≤ a6 ∧ a6 ≤ IntKind.i64.max)
def cKid : S_laws_Kid → S_impl_Kid
  | .mk a0 a1 a2 a3 a4 a5 a6 => .mk a0 a1 (cTerm (.mk a2 a3 a4 a5)).f0 (cTerm (.mk a2 a3 a4 a5)).f1 (cTerm (.mk a2 a3 a4 a5)).f2 (cTerm (.mk a2 a3 a4 a5)).f3 a6
theorem szKid_ok (n : Nat) {a0 : List UInt8} {a1 : List UInt8} {a2 : Int} {a3 : Int} {a4 : List UInt8} {a5 : List S_laws_Term} {a6 : Int} {left : Int} (h : dKid (.mk a0 a1 a2 a3 a4 a5 a6) < n) (ho : okKid (.mk a0 a1 a2 a3 a4 a5 a6)) (h0 : 0 ≤ left) (h1 : left ≤ 1048576) : p_laws_szKid n a0 a1 a2 a3 a4 a5 a6 left = some (if (zKid (.mk a0 a1 a2 a3 a4 a5 a6) : Int) ≤ left then left - zKid (.mk a0 a1 a2 a3 a4 a5 a6) else -1) := by
  unfold p_laws_szKid
  simp only [dKid, okKid] at h ho
  have ez : zKid (.mk a0 a1 a2 a3 a4 a5 a6) = a0.length + a1.length + zTerm (.mk a2 a3 a4 a5) := rfl
  generalize zKid (.mk a0 a1 a2 a3 a4 a5 a6) = zz at ez ⊢
  obtain ⟨o0, o1, o2, o3⟩ := ho
  rw [sub_ok o0 (by omega) (by omega)]
  by_cases q1 : left - ((a0.length : Nat) : Int) < 0
  · rw [decide_eq_true q1, cond_true, if_neg (by omega)]
  rw [decide_eq_false q1, cond_false]
  rw [sub_ok o1 (by omega) (by omega)]
  by_cases q2 : left - (a0.length : Nat) - ((a1.length : Nat) : Int) < 0
  · rw [decide_eq_true q2, cond_true, if_neg (by omega)]
  rw [decide_eq_false q2, cond_false]
  rw [szTerm_ok n (h := by omega) (ho := o2) (h0 := by omega) (h1 := by omega)]
  by_cases q3 : ((zTerm (.mk a2 a3 a4 a5) : Nat) : Int) ≤ left - (a0.length : Nat) - (a1.length : Nat)
  rotate_left
  · rw [if_neg q3, if_neg (by omega)]; rfl
  rw [if_pos q3, Option.bind_some, decide_eq_false (by omega), cond_false]
  rw [if_pos (by omega)]
  congr 1; omega
theorem toKid_ok (n : Nat) {a0 : List UInt8} {a1 : List UInt8} {a2 : Int} {a3 : Int} {a4 : List UInt8} {a5 : List S_laws_Term} {a6 : Int} (h : dKid (.mk a0 a1 a2 a3 a4 a5 a6) < n) (hz : zKid (.mk a0 a1 a2 a3 a4 a5 a6) ≤ 1048576) : p_laws_toKid n a0 a1 a2 a3 a4 a5 a6 = some ((cKid (.mk a0 a1 a2 a3 a4 a5 a6)).f0, (cKid (.mk a0 a1 a2 a3 a4 a5 a6)).f1, (cKid (.mk a0 a1 a2 a3 a4 a5 a6)).f2, (cKid (.mk a0 a1 a2 a3 a4 a5 a6)).f3, (cKid (.mk a0 a1 a2 a3 a4 a5 a6)).f4, (cKid (.mk a0 a1 a2 a3 a4 a5 a6)).f5, (cKid (.mk a0 a1 a2 a3 a4 a5 a6)).f6) := by
  unfold p_laws_toKid
  simp only [dKid, zKid] at h hz
  rw [toTerm_ok n (h := by omega) (hz := by omega)]
  try simp only [Option.bind_some]
  rfl
theorem eqKid_ok (n : Nat) {a0 : List UInt8} {a1 : List UInt8} {a2 : Int} {a3 : Int} {a4 : List UInt8} {a5 : List S_impl_Term} {a6 : Int} (h : wKid (.mk a0 a1 a2 a3 a4 a5 a6) < n) (hn : n ≤ 4611686018427387904) : p_laws_eqKid n a0 a1 a2 a3 a4 a5 a6 a0 a1 a2 a3 a4 a5 a6 = some true := by
  unfold p_laws_eqKid
  simp only [wKid] at h
  try simp only [decide_true, beq_self_eq_true, Bool.not_true, cond_false]
  rw [eqTerm_ok n (h := by omega) (hn := hn)]
  simp only [Option.bind_some, decide_true, beq_self_eq_true, Bool.not_true, cond_false]
theorem wKid_c (a : S_laws_Kid) : wKid (cKid a) = dKid a := by
  cases a
  simp only [cKid, wKid, dKid, S_impl_Term_eta, wTerm_c]
theorem dKid_z (a : S_laws_Kid) : dKid a ≤ 5 * zKid a + 7 := by
  obtain ⟨a0, a1, a2, a3, a4, a5, a6⟩ := a
  have := dTerm_z (.mk a2 a3 a4 a5)
  show 3 + a0.length + a1.length + dTerm (.mk a2 a3 a4 a5) ≤ 5 * (a0.length + a1.length + zTerm (.mk a2 a3 a4 a5)) + 7
  omega
def cKids (l : List S_laws_Kid) : List S_impl_Kid := l.map cKid
theorem szKidS_ok (n : Nat) (l : List S_laws_Kid) (left : Int) (h : dl dKid l < n) (hl : l.length ≤ maxLen) (ho : ∀ a ∈ l, okKid a) (h0 : 0 ≤ left) (h1 : left ≤ 1048576) : p_laws_szKidS n l left = some (if (zl zKid l : Int) ≤ left then left - zl zKid l else -1) := by
  unfold p_laws_szKidS
  have h2 := dl_len dKid l
  have ez : zl zKid l = l.length + sumz zKid l := rfl
  rw [ez, sub_ok hl h0 h1]
  by_cases c : left - (l.length : Int) < 0
  · rw [decide_eq_true c, cond_true, if_neg (by omega)]
  rw [decide_eq_false c, cond_false]
  rw [loop_sz l zKid (fun i a t ha t0 t1 => by
    have hm := List.mem_of_getElem? ha
    have hd := dl_mem dKid hm
    have hi := lt_len ha
    simp only [p_laws_szKidS_b1, lt_int ha, cond_true, ix_nat, ha, Option.bind_some, wrap_succ (show i < 4611686018427387904 by simp only [maxLen] at hl; omega)]
    rw [szKid_ok n (h := by rw [S_laws_Kid_eta]; omega) (ho := by rw [S_laws_Kid_eta]; exact ho a hm) (h0 := t0) (h1 := t1), S_laws_Kid_eta]
    by_cases c2 : (zKid a : Int) ≤ t
    · rw [if_pos c2, if_pos c2, Option.bind_some, decide_eq_false (by omega), cond_false]
    · rw [if_neg c2, if_neg c2]; rfl) (fun t => by simp only [p_laws_szKidS_b1, not_lt_int, cond_false]) (by omega) (by omega) (by omega)]
  by_cases c2 : (sumz zKid l : Int) ≤ left - l.length
  · rw [if_pos c2, if_pos (by omega)]
    simp only [Option.bind_some, Option.some.injEq]; omega
  · rw [if_neg c2, if_neg (by omega)]; rfl
theorem toKidS_ok (n : Nat) (l : List S_laws_Kid) (h : dl dKid l < n) (hz : zl zKid l ≤ 1048576) : p_laws_toKidS n l = some (cKids l) := by
  unfold p_laws_toKidS
  have h2 := dl_len dKid l
  have ez : zl zKid l = l.length + sumz zKid l := rfl
  have hc : decide (0 ≤ (l.length : Int) ∧ (l.length : Int) ≤ maxLen ∧ 96 * (l.length : Int) ≤ 281474976710656) = true := decide_eq_true ⟨by omega, by simp only [maxLen]; omega, by omega⟩
  rw [hc]
  simp only [ck, cond_true, Option.bind_some, Int.toNat_natCast]
  rw [loop_to l cKid _ (fun i a o b ha hb => by
    have hm := List.mem_of_getElem? ha
    have hd := dl_mem dKid hm
    have hi := lt_len ha
    have hs := sumz_mem zKid hm
    simp only [p_laws_toKidS_b1, lt_int ha, cond_true, ix_nat, ha, hb, Option.bind_some, wrap_succ (show i < 4611686018427387904 by omega), Int.toNat_natCast]
    rw [toKid_ok n (h := by rw [S_laws_Kid_eta]; omega) (hz := by rw [S_laws_Kid_eta]; omega)]
    simp only [Option.bind_some, S_laws_Kid_eta, S_impl_Kid_eta]) (fun o => by simp only [p_laws_toKidS_b1, not_lt_int, cond_false]) (by omega)]
  rfl
theorem eqKidS_ok (n : Nat) (l : List S_impl_Kid) (h : dl wKid l < n) (hn : n ≤ 4611686018427387904) : p_laws_eqKidS n l l = some true := by
  unfold p_laws_eqKidS
  have h2 := dl_len wKid l
  simp only [decide_true, Bool.not_true, cond_false]
  rw [loop_eq l (fun i a ha => by
    have hm := List.mem_of_getElem? ha
    have hd := dl_mem wKid hm
    have hi := lt_len ha
    simp only [p_laws_eqKidS_b1, lt_int ha, cond_true, ix_nat, ha, Option.bind_some, wrap_succ (show i < 4611686018427387904 by omega)]
    rw [eqKid_ok n (h := by rw [S_impl_Kid_eta]; omega) (hn := hn)]
    rfl) (by simp only [p_laws_eqKidS_b1, not_lt_int, cond_false]) (by omega)]
  rfl
theorem dl_cKid (l : List S_laws_Kid) : dl wKid (cKids l) = dl dKid l := by
  unfold cKids
  rw [dl_map]
  exact dl_congr fun a _ => wKid_c a
theorem S_laws_Over_eta (a : S_laws_Over) : S_laws_Over.mk a.f0 a.f1 a.f2 a.f3 a.f4 a.f5 a.f6 = a := rfl
theorem S_impl_Over_eta (a : S_impl_Over) : S_impl_Over.mk a.f0 a.f1 a.f2 a.f3 a.f4 a.f5 a.f6 = a := rfl
def zOver : S_laws_Over → Nat
  | .mk a0 a1 a2 a3 a4 a5 a6 => zl zKid a3 + a4.length + a5.length
def dOver : S_laws_Over → Nat
  | .mk a0 a1 a2 a3 a4 a5 a6 => 3 + dl dKid a3 + dl (fun _ => 0) a4 + dl (fun _ => 0) a5
def wOver : S_impl_Over → Nat
  | .mk a0 a1 a2 a3 a4 a5 a6 => 3 + dl wKid a3 + dl (fun _ => 0) a4 + dl (fun _ => 0) a5
def okOver : S_laws_Over → Prop
  | .mk a0 a1 a2 a3 a4 a5 a6 => (IntKind.i64.min ≤ a0 ∧ a0 ≤ IntKind.i64.max) ∧ (IntKind.i64.min ≤ a1 ∧ a1 ≤ IntKind.i64.max) ∧ (IntKind.i64.min ≤ a2 ∧ a2 ≤ IntKind.i64.max) ∧ (a3.length ≤ maxLen ∧ ∀ x ∈ a3, okKid x) ∧ (a4.length ≤ maxLen ∧ ∀ x ∈ a4, IntKind.i64.min ≤ x ∧ x ≤ IntKind.i64.max) ∧ (a5.length ≤ maxLen ∧ ∀ x ∈ a5, IntKind.i64.min ≤ x ∧ x ≤ IntKind.i64.max)
def cOver : S_laws_Over → S_impl_Over
  | .mk a0 a1 a2 a3 a4 a5 a6 => .mk a0 a1 a2 (cKids a3) a4 a5 a6
theorem szOver_ok (n : Nat) {a0 : Int} {a1 : Int} {a2 : Int} {a3 : List S_laws_Kid} {a4 : List (Int)} {a5 : List (Int)} {a6 : Bool} {left : Int} (h : dOver (.mk a0 a1 a2 a3 a4 a5 a6) < n) (ho : okOver (.mk a0 a1 a2 a3 a4 a5 a6)) (h0 : 0 ≤ left) (h1 : left ≤ 1048576) : p_laws_szOver n a0 a1 a2 a3 a4 a5 a6 left = some (if (zOver (.mk a0 a1 a2 a3 a4 a5 a6) : Int) ≤ left then left - zOver (.mk a0 a1 a2 a3 a4 a5 a6) else -1) := by
  unfold p_laws_szOver
  simp only [dOver, okOver] at h ho
  have ez : zOver (.mk a0 a1 a2 a3 a4 a5 a6) = zl zKid a3 + a4.length + a5.length := rfl
  generalize zOver (.mk a0 a1 a2 a3 a4 a5 a6) = zz at ez ⊢
  obtain ⟨o0, o1, o2, o3, o4, o5⟩ := ho
  rw [szKidS_ok n _ _ (by omega) o3.1 o3.2 (by omega) (by omega)]
  by_cases q1 : ((zl zKid a3 : Nat) : Int) ≤ left
  rotate_left
  · rw [if_neg q1, if_neg (by omega)]; rfl
  rw [if_pos q1, Option.bind_some, decide_eq_false (by omega), cond_false]
  rw [szIntS_ok n o4.1 (by omega) (by omega)]
  by_cases q2 : ((a4.length : Nat) : Int) ≤ left - (zl zKid a3 : Nat)
  rotate_left
  · rw [if_neg q2, if_neg (by omega)]; rfl
  rw [if_pos q2, Option.bind_some, decide_eq_false (by omega), cond_false]
  rw [szIntS_ok n o5.1 (by omega) (by omega)]
  by_cases q3 : ((a5.length : Nat) : Int) ≤ left - (zl zKid a3 : Nat) - (a4.length : Nat)
  rotate_left
  · rw [if_neg q3, if_neg (by omega)]; rfl
  rw [if_pos q3, Option.bind_some, decide_eq_false (by omega), cond_false]
  rw [if_pos (by omega)]
  congr 1; omega
theorem toOver_ok (n : Nat) {a0 : Int} {a1 : Int} {a2 : Int} {a3 : List S_laws_Kid} {a4 : List (Int)} {a5 : List (Int)} {a6 : Bool} (h : dOver (.mk a0 a1 a2 a3 a4 a5 a6) < n) (hz : zOver (.mk a0 a1 a2 a3 a4 a5 a6) ≤ 1048576) : p_laws_toOver n a0 a1 a2 a3 a4 a5 a6 = some ((cOver (.mk a0 a1 a2 a3 a4 a5 a6)).f0, (cOver (.mk a0 a1 a2 a3 a4 a5 a6)).f1, (cOver (.mk a0 a1 a2 a3 a4 a5 a6)).f2, (cOver (.mk a0 a1 a2 a3 a4 a5 a6)).f3, (cOver (.mk a0 a1 a2 a3 a4 a5 a6)).f4, (cOver (.mk a0 a1 a2 a3 a4 a5 a6)).f5, (cOver (.mk a0 a1 a2 a3 a4 a5 a6)).f6) := by
  unfold p_laws_toOver
  simp only [dOver, zOver] at h hz
  rw [toKidS_ok n _ (by omega) (by omega)]
  try simp only [Option.bind_some]
  rw [toIntS_ok n _ (by omega) (by omega)]
  try simp only [Option.bind_some]
  rw [toIntS_ok n _ (by omega) (by omega)]
  try simp only [Option.bind_some]
  rfl
theorem eqOver_ok (n : Nat) {a0 : Int} {a1 : Int} {a2 : Int} {a3 : List S_impl_Kid} {a4 : List (Int)} {a5 : List (Int)} {a6 : Bool} (h : wOver (.mk a0 a1 a2 a3 a4 a5 a6) < n) (hn : n ≤ 4611686018427387904) : p_laws_eqOver n a0 a1 a2 a3 a4 a5 a6 a0 a1 a2 a3 a4 a5 a6 = some true := by
  unfold p_laws_eqOver
  simp only [wOver] at h
  try simp only [decide_true, beq_self_eq_true, Bool.not_true, cond_false]
  rw [eqKidS_ok n _ (by omega) hn]
  simp only [Option.bind_some, decide_true, beq_self_eq_true, Bool.not_true, cond_false]
  rw [eqIntS_ok n _ (by omega) hn]
  simp only [Option.bind_some, decide_true, beq_self_eq_true, Bool.not_true, cond_false]
  rw [eqIntS_ok n _ (by omega) hn]
  simp only [Option.bind_some, decide_true, beq_self_eq_true, Bool.not_true, cond_false]
theorem wOver_c (a : S_laws_Over) : wOver (cOver a) = dOver a := by
  cases a
  simp only [cOver, wOver, dOver, dl_cKid]
theorem dOver_z (a : S_laws_Over) : dOver a ≤ 8 * zOver a + 6 := by
  obtain ⟨a0, a1, a2, a3, a4, a5, a6⟩ := a
  have := dl_le (A := 5) (B := 7) (C := 8) dKid_z (by omega) (by omega) a3
  have := dl_int a4
  have := dl_int a5
  show 3 + dl dKid a3 + dl (fun _ => 0) a4 + dl (fun _ => 0) a5 ≤ 8 * (zl zKid a3 + a4.length + a5.length) + 6
  omega
def cOvers (l : List S_laws_Over) : List S_impl_Over := l.map cOver
theorem szOverS_ok (n : Nat) (l : List S_laws_Over) (left : Int) (h : dl dOver l < n) (hl : l.length ≤ maxLen) (ho : ∀ a ∈ l, okOver a) (h0 : 0 ≤ left) (h1 : left ≤ 1048576) : p_laws_szOverS n l left = some (if (zl zOver l : Int) ≤ left then left - zl zOver l else -1) := by
  unfold p_laws_szOverS
  have h2 := dl_len dOver l
  have ez : zl zOver l = l.length + sumz zOver l := rfl
  rw [ez, sub_ok hl h0 h1]
  by_cases c : left - (l.length : Int) < 0
  · rw [decide_eq_true c, cond_true, if_neg (by omega)]
  rw [decide_eq_false c, cond_false]
  rw [loop_sz l zOver (fun i a t ha t0 t1 => by
    have hm := List.mem_of_getElem? ha
    have hd := dl_mem dOver hm
    have hi := lt_len ha
    simp only [p_laws_szOverS_b1, lt_int ha, cond_true, ix_nat, ha, Option.bind_some, wrap_succ (show i < 4611686018427387904 by simp only [maxLen] at hl; omega)]
    rw [szOver_ok n (h := by rw [S_laws_Over_eta]; omega) (ho := by rw [S_laws_Over_eta]; exact ho a hm) (h0 := t0) (h1 := t1), S_laws_Over_eta]
    by_cases c2 : (zOver a : Int) ≤ t
    · rw [if_pos c2, if_pos c2, Option.bind_some, decide_eq_false (by omega), cond_false]
    · rw [if_neg c2, if_neg c2]; rfl) (fun t => by simp only [p_laws_szOverS_b1, not_lt_int, cond_false]) (by omega) (by omega) (by omega)]
  by_cases c2 : (sumz zOver l : Int) ≤ left - l.length
  · rw [if_pos c2, if_pos (by omega)]
    simp only [Option.bind_some, Option.some.injEq]; omega
  · rw [if_neg c2, if_neg (by omega)]; rfl
theorem toOverS_ok (n : Nat) (l : List S_laws_Over) (h : dl dOver l < n) (hz : zl zOver l ≤ 1048576) : p_laws_toOverS n l = some (cOvers l) := by
  unfold p_laws_toOverS
  have h2 := dl_len dOver l
  have ez : zl zOver l = l.length + sumz zOver l := rfl
  have hc : decide (0 ≤ (l.length : Int) ∧ (l.length : Int) ≤ maxLen ∧ 104 * (l.length : Int) ≤ 281474976710656) = true := decide_eq_true ⟨by omega, by simp only [maxLen]; omega, by omega⟩
  rw [hc]
  simp only [ck, cond_true, Option.bind_some, Int.toNat_natCast]
  rw [loop_to l cOver _ (fun i a o b ha hb => by
    have hm := List.mem_of_getElem? ha
    have hd := dl_mem dOver hm
    have hi := lt_len ha
    have hs := sumz_mem zOver hm
    simp only [p_laws_toOverS_b1, lt_int ha, cond_true, ix_nat, ha, hb, Option.bind_some, wrap_succ (show i < 4611686018427387904 by omega), Int.toNat_natCast]
    rw [toOver_ok n (h := by rw [S_laws_Over_eta]; omega) (hz := by rw [S_laws_Over_eta]; omega)]
    simp only [Option.bind_some, S_laws_Over_eta, S_impl_Over_eta]) (fun o => by simp only [p_laws_toOverS_b1, not_lt_int, cond_false]) (by omega)]
  rfl
theorem eqOverS_ok (n : Nat) (l : List S_impl_Over) (h : dl wOver l < n) (hn : n ≤ 4611686018427387904) : p_laws_eqOverS n l l = some true := by
  unfold p_laws_eqOverS
  have h2 := dl_len wOver l
  simp only [decide_true, Bool.not_true, cond_false]
  rw [loop_eq l (fun i a ha => by
    have hm := List.mem_of_getElem? ha
    have hd := dl_mem wOver hm
    have hi := lt_len ha
    simp only [p_laws_eqOverS_b1, lt_int ha, cond_true, ix_nat, ha, Option.bind_some, wrap_succ (show i < 4611686018427387904 by omega)]
    rw [eqOver_ok n (h := by rw [S_impl_Over_eta]; omega) (hn := hn)]
    rfl) (by simp only [p_laws_eqOverS_b1, not_lt_int, cond_false]) (by omega)]
  rfl
theorem dl_cOver (l : List S_laws_Over) : dl wOver (cOvers l) = dl dOver l := by
  unfold cOvers
  rw [dl_map]
  exact dl_congr fun a _ => wOver_c a
end Go.Own.Q
