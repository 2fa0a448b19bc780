/- Sizes, copies, equality of the types, in plain Lean. No conditions. -/
import Derived.Test.YtgeomhdbckjkcaaW34KitN
set_option linter.unusedVariables false
set_option linter.unusedSimpArgs false
set_option linter.unnecessarySimpa false
namespace Go.Own.Q
open Go Go.Proofs
theorem S_laws_Pat_eta (a : S_laws_Pat) : S_laws_Pat.mk a.f0 a.f1 a.f2 a.f3 = a := by cases a; rfl
theorem S_impl_Pat_eta (a : S_impl_Pat) : S_impl_Pat.mk a.f0 a.f1 a.f2 a.f3 = a := by cases a; rfl
mutual
def zPat : S_laws_Pat → Nat
 | .mk _ _ s l => s.length + zPats l
def zPats : List S_laws_Pat → Nat
 | [] => 0
 | x :: r => 1 + zPat x + zPats r
end
mutual
def wPat : S_impl_Pat → Nat
 | .mk _ _ s l => 3 + s.length + wPats l
def wPats : List S_impl_Pat → Nat
 | [] => 1
 | x :: r => 1 + wPat x + wPats r
end
mutual
def cPat : S_laws_Pat → S_impl_Pat
 | .mk a b s l => .mk a b s (cPats l)
def cPats : List S_laws_Pat → List S_impl_Pat
 | [] => []
 | x :: r => cPat x :: cPats r
end
mutual
def dPat : S_laws_Pat → Nat
 | .mk _ _ s l => 3 + s.length + dPats l
def dPats : List S_laws_Pat → Nat
 | [] => 1
 | x :: r => 1 + dPat x + dPats r
end
mutual
def okPat : S_laws_Pat → Prop
 | .mk a b s l => (IntKind.i64.min ≤ a ∧ a ≤ IntKind.i64.max) ∧ (IntKind.i64.min ≤ b ∧ b ≤ IntKind.i64.max) ∧ s.length ≤ maxLen ∧ l.length ≤ maxLen ∧ okPats l
def okPats : List S_laws_Pat → Prop
 | [] => True
 | x :: r => okPat x ∧ okPats r
end
theorem cPat_mk {a0 a1 : Int} {a2 : List UInt8} {a3 : List S_laws_Pat} : cPat (.mk a0 a1 a2 a3) = .mk a0 a1 a2 (cPats a3) := by simp only [cPat]
theorem zPats_zl : ∀ l, zPats l = zl zPat l
 | [] => rfl
 | x :: r => by simp only [zPats, zl, sumz, zPats_zl r, List.length_cons]; omega
theorem dPats_dl : ∀ l, dPats l = dl dPat l
 | [] => rfl
 | x :: r => by simp only [dPats, dl, dPats_dl r]
theorem wPats_dl : ∀ l, wPats l = dl wPat l
 | [] => rfl
 | x :: r => by simp only [wPats, dl, wPats_dl r]
theorem cPats_map : ∀ l, cPats l = l.map cPat
 | [] => rfl
 | x :: r => by simp only [cPats, cPats_map r, List.map_cons]
theorem okPats_iff : ∀ l, okPats l ↔ ∀ a ∈ l, okPat a
 | [] => by simp [okPats]
 | x :: r => by simp [okPats, okPats_iff r]
mutual
theorem wPat_c : ∀ x, wPat (cPat x) = dPat x
 | .mk a b s l => by simp only [cPat, wPat, dPat, wPats_c l]
theorem wPats_c : ∀ l, wPats (cPats l) = dPats l
 | [] => rfl
 | x :: r => by simp only [cPats, wPats, dPats, wPat_c x, wPats_c r]
end
theorem dl_cPat (l : List S_laws_Pat) : dl wPat (cPats l) = dl dPat l := by rw [← wPats_dl, ← dPats_dl, wPats_c]
mutual
theorem dPat_z : ∀ x, dPat x ≤ 5 * zPat x + 4
 | .mk a b s l => by have := dPats_z l; simp only [dPat, zPat]; omega
theorem dPats_z : ∀ l, dPats l ≤ 5 * zPats l + 1
 | [] => by simp [dPats]
 | x :: r => by have := dPat_z x; have := dPats_z r; simp only [dPats, zPats]; omega
end
theorem szPat_oks : ∀ (n : Nat), (∀ (a0 a1 : Int) (a2 : List UInt8) (a3 : List S_laws_Pat) (left : Int), dPat (.mk a0 a1 a2 a3) < n → okPat (.mk a0 a1 a2 a3) → 0 ≤ left → left ≤ 1048576 → p_laws_szPat n a0 a1 a2 a3 left = some (if (zPat (.mk a0 a1 a2 a3) : Int) ≤ left then left - zPat (.mk a0 a1 a2 a3) else -1)) ∧ ∀ (l : List S_laws_Pat) (left : Int), dl dPat l < n → l.length ≤ maxLen → (∀ a ∈ l, okPat a) → 0 ≤ left → left ≤ 1048576 → p_laws_szPatS n l left = some (if (zl zPat l : Int) ≤ left then left - zl zPat l else -1)
 | 0 => ⟨fun a0 a1 a2 a3 left h => by omega, fun l left h => by omega⟩
 | n + 1 => by
  obtain ⟨ih1, ih2⟩ := szPat_oks n
  refine ⟨fun a0 a1 a2 a3 left h ho h0 h1 => ?_, fun l left h hl ho h0 h1 => ?_⟩
  ·rw [p_laws_szPat_succ]
   unfold s_laws_szPat
   simp only [dPat, okPat, zPat, zPats_zl, dPats_dl] at h ho ⊢
   obtain ⟨_, _, o3, o4, o5⟩ := ho
   rw [sub_ok o3 h0 h1]
   by_cases c : left - (a2.length : Int) < 0
   ·rw [decide_eq_true c, cond_true, if_neg (by omega)]
   rw [decide_eq_false c, cond_false]
   rw [ih2 a3 _ (by omega) o4 ((okPats_iff _).1 o5) (by omega) (by omega)]
   by_cases c2 : (zl zPat a3 : Int) ≤ left - a2.length
   ·rw [if_pos c2, if_pos (by omega), Option.bind_some, decide_eq_false (by omega)]
    simp only [cond_false, Option.some.injEq]; omega
   ·rw [if_neg c2, if_neg (by omega)]; rfl
  ·rw [p_laws_szPatS_succ]
   unfold s_laws_szPatS
   have h2 := dl_len dPat l
   have ez : zl zPat l = l.length + sumz zPat l := rfl
   rw [ez, sub_ok hl h0 h1]
   by_cases c : left - (l.length : Int) < 0
   ·rw [decide_eq_true c, cond_true, if_neg (by omega)]
   rw [decide_eq_false c, cond_false]
   rw [loop_sz l zPat (fun i a t ha t0 t1 => by
    have hm := List.mem_of_getElem? ha
    have hd := dl_mem dPat hm
    have hi := lt_len ha
    have e := ih1 a.f0 a.f1 a.f2 a.f3 t (by rw [S_laws_Pat_eta]; omega) (by rw [S_laws_Pat_eta]; exact ho a hm) t0 t1
    rw [S_laws_Pat_eta] at e
    simp only [p_laws_szPatS_b1, lt_int ha, cond_true, ix_nat, ha, Option.bind_some, e, wrap_succ (show i < 4611686018427387904 by simp only [maxLen] at hl; omega)]
    by_cases c2 : (zPat a : Int) ≤ t
    ·rw [if_pos c2, if_pos c2, decide_eq_false (by omega)]; rfl
    ·rw [if_neg c2, if_neg c2]; rfl) (fun t => by simp only [p_laws_szPatS_b1, not_lt_int, cond_false]) (by omega) (by omega) (by omega)]
   by_cases c2 : (sumz zPat l : Int) ≤ left - l.length
   ·rw [if_pos c2, if_pos (by omega)]
    simp only [Option.bind_some, Option.some.injEq]; omega
   ·rw [if_neg c2, if_neg (by omega)]; rfl
theorem szPat_ok (n : Nat) {a0 a1 : Int} {a2 : List UInt8} {a3 : List S_laws_Pat} {left : Int} (h : dPat (.mk a0 a1 a2 a3) < n) (ho : okPat (.mk a0 a1 a2 a3)) (h0 : 0 ≤ left) (h1 : left ≤ 1048576) : p_laws_szPat n a0 a1 a2 a3 left = some (if (zPat (.mk a0 a1 a2 a3) : Int) ≤ left then left - zPat (.mk a0 a1 a2 a3) else -1) := (szPat_oks n).1 _ _ _ _ _ h ho h0 h1
theorem szPatS_ok (n : Nat) (l : List S_laws_Pat) (left : Int) (h : dl dPat l < n) (hl : l.length ≤ maxLen) (ho : ∀ a ∈ l, okPat a) (h0 : 0 ≤ left) (h1 : left ≤ 1048576) : p_laws_szPatS n l left = some (if (zl zPat l : Int) ≤ left then left - zl zPat l else -1) := (szPat_oks n).2 _ _ h hl ho h0 h1
theorem toPat_oks : ∀ (n : Nat), (∀ (a0 a1 : Int) (a2 : List UInt8) (a3 : List S_laws_Pat), dPat (.mk a0 a1 a2 a3) < n → zPat (.mk a0 a1 a2 a3) ≤ 1048576 → p_laws_toPat n a0 a1 a2 a3 = some (a0, a1, a2, cPats a3)) ∧ ∀ (l : List S_laws_Pat), dl dPat l < n → zl zPat l ≤ 1048576 → p_laws_toPatS n l = some (cPats l)
 | 0 => ⟨fun a0 a1 a2 a3 h => by omega, fun l h => by omega⟩
 | n + 1 => by
  obtain ⟨ih1, ih2⟩ := toPat_oks n
  refine ⟨fun a0 a1 a2 a3 h hz => ?_, fun l h hz => ?_⟩
  ·rw [p_laws_toPat_succ]
   unfold s_laws_toPat
   simp only [dPat, zPat, zPats_zl, dPats_dl] at h hz
   simp only [ih2 a3 (by omega) (by omega), Option.bind_some]
  ·rw [p_laws_toPatS_succ]
   unfold s_laws_toPatS
   have h2 := dl_len dPat l
   have ez : zl zPat l = l.length + sumz zPat l := rfl
   have hc : decide (0 ≤ (l.length : Int) ∧ (l.length : Int) ≤ maxLen ∧ 56 * (l.length : Int) ≤ 281474976710656) = true := decide_eq_true ⟨by omega, by simp only [maxLen]; omega, by omega⟩
   rw [hc]
   simp only [ck, cond_true, Option.bind_some, Int.toNat_natCast]
   rw [loop_to l cPat _ (fun i a o b ha hb => by
    have hm := List.mem_of_getElem? ha
    have hd := dl_mem dPat hm
    have hi := lt_len ha
    have hs := sumz_mem zPat hm
    simp only [p_laws_toPatS_b1, lt_int ha, cond_true, ix_nat, ha, hb, Option.bind_some, ih1 a.f0 a.f1 a.f2 a.f3 (by rw [S_laws_Pat_eta]; omega) (by rw [S_laws_Pat_eta]; omega), wrap_succ (show i < 4611686018427387904 by omega), Int.toNat_natCast, ← cPat_mk, S_laws_Pat_eta]) (fun o => by simp only [p_laws_toPatS_b1, not_lt_int, cond_false]) (by omega)]
   simp only [Option.bind_some, cPats_map]
theorem toPat_ok (n : Nat) {a0 a1 : Int} {a2 : List UInt8} {a3 : List S_laws_Pat} (h : dPat (.mk a0 a1 a2 a3) < n) (hz : zPat (.mk a0 a1 a2 a3) ≤ 1048576) : p_laws_toPat n a0 a1 a2 a3 = some ((cPat (.mk a0 a1 a2 a3)).f0, (cPat (.mk a0 a1 a2 a3)).f1, (cPat (.mk a0 a1 a2 a3)).f2, (cPat (.mk a0 a1 a2 a3)).f3) := by
 rw [(toPat_oks n).1 _ _ _ _ h hz, cPat_mk]; rfl
theorem toPatS_ok (n : Nat) (l : List S_laws_Pat) (h : dl dPat l < n) (hz : zl zPat l ≤ 1048576) : p_laws_toPatS n l = some (cPats l) := (toPat_oks n).2 _ h hz
theorem eqPat_oks : ∀ (n : Nat), n ≤ 4611686018427387904 → (∀ (a0 a1 : Int) (a2 : List UInt8) (a3 : List S_impl_Pat), wPat (.mk a0 a1 a2 a3) < n → p_laws_eqPat n a0 a1 a2 a3 a0 a1 a2 a3 = some true) ∧ ∀ (l : List S_impl_Pat), dl wPat l < n → p_laws_eqPatS n l l = some true
 | 0, _ => ⟨fun a0 a1 a2 a3 h => by omega, fun l h => by omega⟩
 | n + 1, hn => by
  obtain ⟨ih1, ih2⟩ := eqPat_oks n (by omega)
  refine ⟨fun a0 a1 a2 a3 h => ?_, fun l h => ?_⟩
  ·rw [p_laws_eqPat_succ]
   unfold s_laws_eqPat
   simp only [wPat, wPats_dl] at h
   simp only [ih2 a3 (by omega), Option.bind_some, decide_true, Bool.not_true, cond_false]
  ·rw [p_laws_eqPatS_succ]
   unfold s_laws_eqPatS
   have h2 := dl_len wPat l
   simp only [decide_true, Bool.not_true, cond_false]
   rw [loop_eq l (fun i a ha => by
    have hm := List.mem_of_getElem? ha
    have hd := dl_mem wPat hm
    have hi := lt_len ha
    simp only [p_laws_eqPatS_b1, lt_int ha, cond_true, ix_nat, ha, Option.bind_some, ih1 a.f0 a.f1 a.f2 a.f3 (by rw [S_impl_Pat_eta]; omega), Bool.not_true, cond_false, wrap_succ (show i < 4611686018427387904 by omega)]) (by simp only [p_laws_eqPatS_b1, not_lt_int, cond_false]) (by omega)]
   simp only [Option.bind_some]
theorem eqPat_ok (n : Nat) {a0 a1 : Int} {a2 : List UInt8} {a3 : List S_impl_Pat} (h : wPat (.mk a0 a1 a2 a3) < n) (hn : n ≤ 4611686018427387904) : p_laws_eqPat n a0 a1 a2 a3 a0 a1 a2 a3 = some true := (eqPat_oks n hn).1 _ _ _ _ h
theorem eqPatS_ok (n : Nat) (l : List S_impl_Pat) (h : dl wPat l < n) (hn : n ≤ 4611686018427387904) : p_laws_eqPatS n l l = some true := (eqPat_oks n hn).2 _ h
theorem S_impl_Ins_eta (a : S_impl_Ins) : S_impl_Ins.mk a.f0 a.f1 a.f2 a.f3 = a := rfl
def zIns : S_impl_Ins → Nat
 | .mk a0 a1 a2 a3 => a2.length
def dIns : S_impl_Ins → Nat
 | .mk a0 a1 a2 a3 => 4 + a2.length
def wIns : S_impl_Ins → Nat
 | .mk a0 a1 a2 a3 => 4 + a2.length
def okIns : S_impl_Ins → Prop
 | .mk a0 a1 a2 a3 => (IntKind.i64.min ≤ a0 ∧ a0 ≤ IntKind.i64.max) ∧ (IntKind.i64.min ≤ a1 ∧ a1 ≤ IntKind.i64.max) ∧ (a2.length ≤ maxLen) ∧ (IntKind.i64.min ≤ a3 ∧ a3 ≤ IntKind.i64.max)
def cIns : S_impl_Ins → S_impl_Ins
 | .mk a0 a1 a2 a3 => .mk a0 a1 a2 a3
theorem szIns_ok (n : Nat) {a0 : Int} {a1 : Int} {a2 : List UInt8} {a3 : Int} {left : Int} (h : dIns (.mk a0 a1 a2 a3) < n) (ho : okIns (.mk a0 a1 a2 a3)) (h0 : 0 ≤ left) (h1 : left ≤ 1048576) : p_laws_szIns n a0 a1 a2 a3 left = some (if (zIns (.mk a0 a1 a2 a3) : Int) ≤ left then left - zIns (.mk a0 a1 a2 a3) else -1) := by
 unfold p_laws_szIns
 simp only [dIns, okIns] at h ho
 have ez : zIns (.mk a0 a1 a2 a3) = a2.length := rfl
 generalize zIns (.mk a0 a1 a2 a3) = zz at ez ⊢
 obtain ⟨o0, o1, o2, o3⟩ := ho
 rw [sub_ok o2 (by omega) (by omega)]
 by_cases q1 : left - ((a2.length : Nat) : Int) < 0
 ·rw [decide_eq_true q1, cond_true, if_neg (by omega)]
 rw [decide_eq_false q1, cond_false]
 rw [if_pos (by omega)]
 congr 1; omega
theorem toIns_ok (n : Nat) {a0 : Int} {a1 : Int} {a2 : List UInt8} {a3 : Int} (h : dIns (.mk a0 a1 a2 a3) < n) (hz : zIns (.mk a0 a1 a2 a3) ≤ 1048576) : p_laws_toIns n a0 a1 a2 a3 = some ((cIns (.mk a0 a1 a2 a3)).f0, (cIns (.mk a0 a1 a2 a3)).f1, (cIns (.mk a0 a1 a2 a3)).f2, (cIns (.mk a0 a1 a2 a3)).f3) := by
 rfl
theorem eqIns_ok (n : Nat) {a0 : Int} {a1 : Int} {a2 : List UInt8} {a3 : Int} (h : wIns (.mk a0 a1 a2 a3) < n) (hn : n ≤ 4611686018427387904) : p_laws_eqIns n a0 a1 a2 a3 a0 a1 a2 a3 = some true := by
 unfold p_laws_eqIns
 simp only [wIns] at h
 try simp only [decide_true, beq_self_eq_true, Bool.not_true, cond_false]
theorem wIns_c (a : S_impl_Ins) : wIns (cIns a) = dIns a := by
 cases a
 simp only [cIns, wIns, dIns]
theorem dIns_z (a : S_impl_Ins) : dIns a ≤ 1 * zIns a + 4 := by
 obtain ⟨a0, a1, a2, a3⟩ := a
 show 4 + a2.length ≤ 1 * (a2.length) + 4
 omega
def cInss (l : List S_impl_Ins) : List S_impl_Ins := l.map cIns
theorem szInsS_ok (n : Nat) (l : List S_impl_Ins) (left : Int) (h : dl dIns l < n) (hl : l.length ≤ maxLen) (ho : ∀ a ∈ l, okIns a) (h0 : 0 ≤ left) (h1 : left ≤ 1048576) : p_laws_szInsS n l left = some (if (zl zIns l : Int) ≤ left then left - zl zIns l else -1) := by
 unfold p_laws_szInsS
 have h2 := dl_len dIns l
 have ez : zl zIns l = l.length + sumz zIns l := rfl
 rw [ez, sub_ok hl h0 h1]
 by_cases c : left - (l.length : Int) < 0
 ·rw [decide_eq_true c, cond_true, if_neg (by omega)]
 rw [decide_eq_false c, cond_false]
 rw [loop_sz l zIns (fun i a t ha t0 t1 => by
  have hm := List.mem_of_getElem? ha
  have hd := dl_mem dIns hm
  have hi := lt_len ha
  simp only [p_laws_szInsS_b1, lt_int ha, cond_true, ix_nat, ha, Option.bind_some, wrap_succ (show i < 4611686018427387904 by simp only [maxLen] at hl; omega)]
  rw [szIns_ok n (h := by rw [S_impl_Ins_eta]; omega) (ho := by rw [S_impl_Ins_eta]; exact ho a hm) (h0 := t0) (h1 := t1), S_impl_Ins_eta]
  by_cases c2 : (zIns a : Int) ≤ t
  ·rw [if_pos c2, if_pos c2, Option.bind_some, decide_eq_false (by omega), cond_false]
  ·rw [if_neg c2, if_neg c2]; rfl) (fun t => by simp only [p_laws_szInsS_b1, not_lt_int, cond_false]) (by omega) (by omega) (by omega)]
 by_cases c2 : (sumz zIns l : Int) ≤ left - l.length
 ·rw [if_pos c2, if_pos (by omega)]
  simp only [Option.bind_some, Option.some.injEq]; omega
 ·rw [if_neg c2, if_neg (by omega)]; rfl
theorem toInsS_ok (n : Nat) (l : List S_impl_Ins) (h : dl dIns l < n) (hz : zl zIns l ≤ 1048576) : p_laws_toInsS n l = some (cInss l) := by
 unfold p_laws_toInsS
 have h2 := dl_len dIns l
 have ez : zl zIns l = l.length + sumz zIns l := rfl
 have hc : decide (0 ≤ (l.length : Int) ∧ (l.length : Int) ≤ maxLen ∧ 40 * (l.length : Int) ≤ 281474976710656) = true := decide_eq_true ⟨by omega, by simp only [maxLen]; omega, by omega⟩
 rw [hc]
 simp only [ck, cond_true, Option.bind_some, Int.toNat_natCast]
 rw [loop_to l cIns _ (fun i a o b ha hb => by
  have hm := List.mem_of_getElem? ha
  have hd := dl_mem dIns hm
  have hi := lt_len ha
  have hs := sumz_mem zIns hm
  simp only [p_laws_toInsS_b1, lt_int ha, cond_true, ix_nat, ha, hb, Option.bind_some, wrap_succ (show i < 4611686018427387904 by omega), Int.toNat_natCast]
  rw [toIns_ok n (h := by rw [S_impl_Ins_eta]; omega) (hz := by rw [S_impl_Ins_eta]; omega)]
  simp only [Option.bind_some, S_impl_Ins_eta, S_impl_Ins_eta]) (fun o => by simp only [p_laws_toInsS_b1, not_lt_int, cond_false]) (by omega)]
 rfl
theorem eqInsS_ok (n : Nat) (l : List S_impl_Ins) (h : dl wIns l < n) (hn : n ≤ 4611686018427387904) : p_laws_eqInsS n l l = some true := by
 unfold p_laws_eqInsS
 have h2 := dl_len wIns l
 simp only [decide_true, Bool.not_true, cond_false]
 rw [loop_eq l (fun i a ha => by
  have hm := List.mem_of_getElem? ha
  have hd := dl_mem wIns hm
  have hi := lt_len ha
  simp only [p_laws_eqInsS_b1, lt_int ha, cond_true, ix_nat, ha, Option.bind_some, wrap_succ (show i < 4611686018427387904 by omega)]
  rw [eqIns_ok n (h := by rw [S_impl_Ins_eta]; omega) (hn := hn)]
  rfl) (by simp only [p_laws_eqInsS_b1, not_lt_int, cond_false]) (by omega)]
 rfl
theorem dl_cIns (l : List S_impl_Ins) : dl wIns (cInss l) = dl dIns l := by
 unfold cInss
 rw [dl_map]
 exact dl_congr fun a _ => wIns_c a
theorem S_laws_Fn_eta (a : S_laws_Fn) : S_laws_Fn.mk a.f0 a.f1 a.f2 a.f3 = a := rfl
theorem S_impl_Fn_eta (a : S_impl_Fn) : S_impl_Fn.mk a.f0 a.f1 a.f2 a.f3 = a := rfl
def zFn : S_laws_Fn → Nat
 | .mk a0 a1 a2 a3 => a0.length + zl zIns a3
def dFn : S_laws_Fn → Nat
 | .mk a0 a1 a2 a3 => 3 + a0.length + dl dIns a3
def wFn : S_impl_Fn → Nat
 | .mk a0 a1 a2 a3 => 3 + a0.length + dl wIns a3
def okFn : S_laws_Fn → Prop
 | .mk a0 a1 a2 a3 => (a0.length ≤ maxLen) ∧ (IntKind.i64.min ≤ a1 ∧ a1 ≤ IntKind.i64.max) ∧ (IntKind.i64.min ≤ a2 ∧ a2 ≤ IntKind.i64.max) ∧ (a3.length ≤ maxLen ∧ ∀ x ∈ a3, okIns x)
def cFn : S_laws_Fn → S_impl_Fn
 | .mk a0 a1 a2 a3 => .mk a0 a1 a2 (cInss a3)
theorem szFn_ok (n : Nat) {a0 : List UInt8} {a1 : Int} {a2 : Int} {a3 : List S_impl_Ins} {left : Int} (h : dFn (.mk a0 a1 a2 a3) < n) (ho : okFn (.mk a0 a1 a2 a3)) (h0 : 0 ≤ left) (h1 : left ≤ 1048576) : p_laws_szFn n a0 a1 a2 a3 left = some (if (zFn (.mk a0 a1 a2 a3) : Int) ≤ left then left - zFn (.mk a0 a1 a2 a3) else -1) := by
 unfold p_laws_szFn
 simp only [dFn, okFn] at h ho
 have ez : zFn (.mk a0 a1 a2 a3) = a0.length + zl zIns a3 := rfl
 generalize zFn (.mk a0 a1 a2 a3) = zz at ez ⊢
 obtain ⟨o0, o1, o2, o3⟩ := ho
 rw [sub_ok o0 (by omega) (by omega)]
 by_cases q1 : left - ((a0.length : Nat) : Int) < 0
 ·rw [decide_eq_true q1, cond_true, if_neg (by omega)]
 rw [decide_eq_false q1, cond_false]
 rw [szInsS_ok n _ _ (by omega) o3.1 o3.2 (by omega) (by omega)]
 by_cases q2 : ((zl zIns a3 : Nat) : Int) ≤ left - (a0.length : Nat)
 rotate_left
 ·rw [if_neg q2, if_neg (by omega)]; rfl
 rw [if_pos q2, Option.bind_some, decide_eq_false (by omega), cond_false]
 rw [if_pos (by omega)]
 congr 1; omega
theorem toFn_ok (n : Nat) {a0 : List UInt8} {a1 : Int} {a2 : Int} {a3 : List S_impl_Ins} (h : dFn (.mk a0 a1 a2 a3) < n) (hz : zFn (.mk a0 a1 a2 a3) ≤ 1048576) : p_laws_toFn n a0 a1 a2 a3 = some ((cFn (.mk a0 a1 a2 a3)).f0, (cFn (.mk a0 a1 a2 a3)).f1, (cFn (.mk a0 a1 a2 a3)).f2, (cFn (.mk a0 a1 a2 a3)).f3) := by
 unfold p_laws_toFn
 simp only [dFn, zFn] at h hz
 rw [toInsS_ok n _ (by omega) (by omega)]
 try simp only [Option.bind_some]
 rfl
theorem eqFn_ok (n : Nat) {a0 : List UInt8} {a1 : Int} {a2 : Int} {a3 : List S_impl_Ins} (h : wFn (.mk a0 a1 a2 a3) < n) (hn : n ≤ 4611686018427387904) : p_laws_eqFn n a0 a1 a2 a3 a0 a1 a2 a3 = some true := by
 unfold p_laws_eqFn
 simp only [wFn] at h
 try simp only [decide_true, beq_self_eq_true, Bool.not_true, cond_false]
 rw [eqInsS_ok n _ (by omega) hn]
 simp only [Option.bind_some, decide_true, beq_self_eq_true, Bool.not_true, cond_false]
theorem wFn_c (a : S_laws_Fn) : wFn (cFn a) = dFn a := by
 cases a
 simp only [cFn, wFn, dFn, dl_cIns]
theorem dFn_z (a : S_laws_Fn) : dFn a ≤ 5 * zFn a + 4 := by
 obtain ⟨a0, a1, a2, a3⟩ := a
 have := dl_le (A := 1) (B := 4) (C := 5) dIns_z (by omega) (by omega) a3
 show 3 + a0.length + dl dIns a3 ≤ 5 * (a0.length + zl zIns a3) + 4
 omega
def cFns (l : List S_laws_Fn) : List S_impl_Fn := l.map cFn
theorem szFnS_ok (n : Nat) (l : List S_laws_Fn) (left : Int) (h : dl dFn l < n) (hl : l.length ≤ maxLen) (ho : ∀ a ∈ l, okFn a) (h0 : 0 ≤ left) (h1 : left ≤ 1048576) : p_laws_szFnS n l left = some (if (zl zFn l : Int) ≤ left then left - zl zFn l else -1) := by
 unfold p_laws_szFnS
 have h2 := dl_len dFn l
 have ez : zl zFn l = l.length + sumz zFn l := rfl
 rw [ez, sub_ok hl h0 h1]
 by_cases c : left - (l.length : Int) < 0
 ·rw [decide_eq_true c, cond_true, if_neg (by omega)]
 rw [decide_eq_false c, cond_false]
 rw [loop_sz l zFn (fun i a t ha t0 t1 => by
  have hm := List.mem_of_getElem? ha
  have hd := dl_mem dFn hm
  have hi := lt_len ha
  simp only [p_laws_szFnS_b1, lt_int ha, cond_true, ix_nat, ha, Option.bind_some, wrap_succ (show i < 4611686018427387904 by simp only [maxLen] at hl; omega)]
  rw [szFn_ok n (h := by rw [S_laws_Fn_eta]; omega) (ho := by rw [S_laws_Fn_eta]; exact ho a hm) (h0 := t0) (h1 := t1), S_laws_Fn_eta]
  by_cases c2 : (zFn a : Int) ≤ t
  ·rw [if_pos c2, if_pos c2, Option.bind_some, decide_eq_false (by omega), cond_false]
  ·rw [if_neg c2, if_neg c2]; rfl) (fun t => by simp only [p_laws_szFnS_b1, not_lt_int, cond_false]) (by omega) (by omega) (by omega)]
 by_cases c2 : (sumz zFn l : Int) ≤ left - l.length
 ·rw [if_pos c2, if_pos (by omega)]
  simp only [Option.bind_some, Option.some.injEq]; omega
 ·rw [if_neg c2, if_neg (by omega)]; rfl
theorem toFnS_ok (n : Nat) (l : List S_laws_Fn) (h : dl dFn l < n) (hz : zl zFn l ≤ 1048576) : p_laws_toFnS n l = some (cFns l) := by
 unfold p_laws_toFnS
 have h2 := dl_len dFn l
 have ez : zl zFn l = l.length + sumz zFn l := rfl
 have hc : decide (0 ≤ (l.length : Int) ∧ (l.length : Int) ≤ maxLen ∧ 56 * (l.length : Int) ≤ 281474976710656) = true := decide_eq_true ⟨by omega, by simp only [maxLen]; omega, by omega⟩
 rw [hc]
 simp only [ck, cond_true, Option.bind_some, Int.toNat_natCast]
 rw [loop_to l cFn _ (fun i a o b ha hb => by
  have hm := List.mem_of_getElem? ha
  have hd := dl_mem dFn hm
  have hi := lt_len ha
  have hs := sumz_mem zFn hm
  simp only [p_laws_toFnS_b1, lt_int ha, cond_true, ix_nat, ha, hb, Option.bind_some, wrap_succ (show i < 4611686018427387904 by omega), Int.toNat_natCast]
  rw [toFn_ok n (h := by rw [S_laws_Fn_eta]; omega) (hz := by rw [S_laws_Fn_eta]; omega)]
  simp only [Option.bind_some, S_laws_Fn_eta, S_impl_Fn_eta]) (fun o => by simp only [p_laws_toFnS_b1, not_lt_int, cond_false]) (by omega)]
 rfl
theorem eqFnS_ok (n : Nat) (l : List S_impl_Fn) (h : dl wFn l < n) (hn : n ≤ 4611686018427387904) : p_laws_eqFnS n l l = some true := by
 unfold p_laws_eqFnS
 have h2 := dl_len wFn l
 simp only [decide_true, Bool.not_true, cond_false]
 rw [loop_eq l (fun i a ha => by
  have hm := List.mem_of_getElem? ha
  have hd := dl_mem wFn hm
  have hi := lt_len ha
  simp only [p_laws_eqFnS_b1, lt_int ha, cond_true, ix_nat, ha, Option.bind_some, wrap_succ (show i < 4611686018427387904 by omega)]
  rw [eqFn_ok n (h := by rw [S_impl_Fn_eta]; omega) (hn := hn)]
  rfl) (by simp only [p_laws_eqFnS_b1, not_lt_int, cond_false]) (by omega)]
 rfl
theorem dl_cFn (l : List S_laws_Fn) : dl wFn (cFns l) = dl dFn l := by
 unfold cFns
 rw [dl_map]
 exact dl_congr fun a _ => wFn_c a
structure _root_.Go.Own.S_laws_Code where
 f0 : List S_laws_Fn
 f1 : List S_laws_Pat
theorem S_laws_Code_eta (a : S_laws_Code) : S_laws_Code.mk a.f0 a.f1 = a := rfl
theorem S_impl_Code_eta (a : S_impl_Code) : S_impl_Code.mk a.f0 a.f1 = a := rfl
def zCode : S_laws_Code → Nat
 | .mk a0 a1 => zl zFn a0 + zl zPat a1
def dCode : S_laws_Code → Nat
 | .mk a0 a1 => 3 + dl dFn a0 + dl dPat a1
def wCode : S_impl_Code → Nat
 | .mk a0 a1 => 3 + dl wFn a0 + dl wPat a1
def okCode : S_laws_Code → Prop
 | .mk a0 a1 => (a0.length ≤ maxLen ∧ ∀ x ∈ a0, okFn x) ∧ (a1.length ≤ maxLen ∧ ∀ x ∈ a1, okPat x)
def cCode : S_laws_Code → S_impl_Code
 | .mk a0 a1 => .mk (cFns a0) (cPats a1)
theorem szCode_ok (n : Nat) {a0 : List S_laws_Fn} {a1 : List S_laws_Pat} {left : Int} (h : dCode (.mk a0 a1) < n) (ho : okCode (.mk a0 a1)) (h0 : 0 ≤ left) (h1 : left ≤ 1048576) : p_laws_szCode n a0 a1 left = some (if (zCode (.mk a0 a1) : Int) ≤ left then left - zCode (.mk a0 a1) else -1) := by
 unfold p_laws_szCode
 simp only [dCode, okCode] at h ho
 have ez : zCode (.mk a0 a1) = zl zFn a0 + zl zPat a1 := rfl
 generalize zCode (.mk a0 a1) = zz at ez ⊢
 obtain ⟨o0, o1⟩ := ho
 rw [szFnS_ok n _ _ (by omega) o0.1 o0.2 (by omega) (by omega)]
 by_cases q1 : ((zl zFn a0 : Nat) : Int) ≤ left
 rotate_left
 ·rw [if_neg q1, if_neg (by omega)]; rfl
 rw [if_pos q1, Option.bind_some, decide_eq_false (by omega), cond_false]
 rw [szPatS_ok n _ _ (by omega) o1.1 o1.2 (by omega) (by omega)]
 by_cases q2 : ((zl zPat a1 : Nat) : Int) ≤ left - (zl zFn a0 : Nat)
 rotate_left
 ·rw [if_neg q2, if_neg (by omega)]; rfl
 rw [if_pos q2, Option.bind_some, decide_eq_false (by omega), cond_false]
 rw [if_pos (by omega)]
 congr 1; omega
theorem toCode_ok (n : Nat) {a0 : List S_laws_Fn} {a1 : List S_laws_Pat} (h : dCode (.mk a0 a1) < n) (hz : zCode (.mk a0 a1) ≤ 1048576) : p_laws_toCode n a0 a1 = some ((cCode (.mk a0 a1)).f0, (cCode (.mk a0 a1)).f1) := by
 unfold p_laws_toCode
 simp only [dCode, zCode] at h hz
 rw [toFnS_ok n _ (by omega) (by omega)]
 try simp only [Option.bind_some]
 rw [toPatS_ok n _ (by omega) (by omega)]
 try simp only [Option.bind_some]
 rfl
theorem eqCode_ok (n : Nat) {a0 : List S_impl_Fn} {a1 : List S_impl_Pat} (h : wCode (.mk a0 a1) < n) (hn : n ≤ 4611686018427387904) : p_laws_eqCode n a0 a1 a0 a1 = some true := by
 unfold p_laws_eqCode
 simp only [wCode] at h
 try simp only [decide_true, beq_self_eq_true, Bool.not_true, cond_false]
 rw [eqFnS_ok n _ (by omega) hn]
 simp only [Option.bind_some, decide_true, beq_self_eq_true, Bool.not_true, cond_false]
 rw [eqPatS_ok n _ (by omega) hn]
 simp only [Option.bind_some, decide_true, beq_self_eq_true, Bool.not_true, cond_false]
theorem wCode_c (a : S_laws_Code) : wCode (cCode a) = dCode a := by
 cases a
 simp only [cCode, wCode, dCode, dl_cFn, dl_cPat]
theorem dCode_z (a : S_laws_Code) : dCode a ≤ 5 * zCode a + 5 := by
 obtain ⟨a0, a1⟩ := a
 have := dl_le (A := 5) (B := 4) (C := 5) dFn_z (by omega) (by omega) a0
 have := dl_le (A := 5) (B := 4) (C := 5) dPat_z (by omega) (by omega) a1
 show 3 + dl dFn a0 + dl dPat a1 ≤ 5 * (zl zFn a0 + zl zPat a1) + 5
 omega
theorem S_laws_Entry_eta (a : S_laws_Entry) : S_laws_Entry.mk a.f0 a.f1 a.f2 a.f3 a.f4 a.f5 a.f6 = a := rfl
theorem S_impl_Entry_eta (a : S_impl_Entry) : S_impl_Entry.mk a.f0 a.f1 a.f2 a.f3 a.f4 a.f5 a.f6 = a := rfl
def zEntry : S_laws_Entry → Nat
 | .mk a0 a1 a2 a3 a4 a5 a6 => a0.length + zCode (.mk a2 a3) + zCode (.mk a5 a6)
def dEntry : S_laws_Entry → Nat
 | .mk a0 a1 a2 a3 a4 a5 a6 => 3 + a0.length + dCode (.mk a2 a3) + dCode (.mk a5 a6)
def wEntry : S_impl_Entry → Nat
 | .mk a0 a1 a2 a3 a4 a5 a6 => 3 + a0.length + wCode (.mk a2 a3) + wCode (.mk a5 a6)
def okEntry : S_laws_Entry → Prop
 | .mk a0 a1 a2 a3 a4 a5 a6 => (a0.length ≤ maxLen) ∧ (IntKind.i64.min ≤ a1 ∧ a1 ≤ IntKind.i64.max) ∧ (okCode (.mk a2 a3)) ∧ (okCode (.mk a5 a6))
def cEntry : S_laws_Entry → S_impl_Entry
 | .mk a0 a1 a2 a3 a4 a5 a6 => .mk a0 a1 (cCode (.mk a2 a3)).f0 (cCode (.mk a2 a3)).f1 a4 (cCode (.mk a5 a6)).f0 (cCode (.mk a5 a6)).f1
theorem szEntry_ok (n : Nat) {a0 : List UInt8} {a1 : Int} {a2 : List S_laws_Fn} {a3 : List S_laws_Pat} {a4 : Bool} {a5 : List S_laws_Fn} {a6 : List S_laws_Pat} {left : Int} (h : dEntry (.mk a0 a1 a2 a3 a4 a5 a6) < n) (ho : okEntry (.mk a0 a1 a2 a3 a4 a5 a6)) (h0 : 0 ≤ left) (h1 : left ≤ 1048576) : p_laws_szEntry n a0 a1 a2 a3 a4 a5 a6 left = some (if (zEntry (.mk a0 a1 a2 a3 a4 a5 a6) : Int) ≤ left then left - zEntry (.mk a0 a1 a2 a3 a4 a5 a6) else -1) := by
 unfold p_laws_szEntry
 simp only [dEntry, okEntry] at h ho
 have ez : zEntry (.mk a0 a1 a2 a3 a4 a5 a6) = a0.length + zCode (.mk a2 a3) + zCode (.mk a5 a6) := rfl
 generalize zEntry (.mk a0 a1 a2 a3 a4 a5 a6) = zz at ez ⊢
 obtain ⟨o0, o1, o2, o4⟩ := ho
 rw [sub_ok o0 (by omega) (by omega)]
 by_cases q1 : left - ((a0.length : Nat) : Int) < 0
 ·rw [decide_eq_true q1, cond_true, if_neg (by omega)]
 rw [decide_eq_false q1, cond_false]
 rw [szCode_ok n (h := by omega) (ho := o2) (h0 := by omega) (h1 := by omega)]
 by_cases q2 : ((zCode (.mk a2 a3) : Nat) : Int) ≤ left - (a0.length : Nat)
 rotate_left
 ·rw [if_neg q2, if_neg (by omega)]; rfl
 rw [if_pos q2, Option.bind_some, decide_eq_false (by omega), cond_false]
 rw [szCode_ok n (h := by omega) (ho := o4) (h0 := by omega) (h1 := by omega)]
 by_cases q3 : ((zCode (.mk a5 a6) : Nat) : Int) ≤ left - (a0.length : Nat) - (zCode (.mk a2 a3) : Nat)
 rotate_left
 ·rw [if_neg q3, if_neg (by omega)]; rfl
 rw [if_pos q3, Option.bind_some, decide_eq_false (by omega), cond_false]
 rw [if_pos (by omega)]
 congr 1; omega
theorem toEntry_ok (n : Nat) {a0 : List UInt8} {a1 : Int} {a2 : List S_laws_Fn} {a3 : List S_laws_Pat} {a4 : Bool} {a5 : List S_laws_Fn} {a6 : List S_laws_Pat} (h : dEntry (.mk a0 a1 a2 a3 a4 a5 a6) < n) (hz : zEntry (.mk a0 a1 a2 a3 a4 a5 a6) ≤ 1048576) : p_laws_toEntry n a0 a1 a2 a3 a4 a5 a6 = some ((cEntry (.mk a0 a1 a2 a3 a4 a5 a6)).f0, (cEntry (.mk a0 a1 a2 a3 a4 a5 a6)).f1, (cEntry (.mk a0 a1 a2 a3 a4 a5 a6)).f2, (cEntry (.mk a0 a1 a2 a3 a4 a5 a6)).f3, (cEntry (.mk a0 a1 a2 a3 a4 a5 a6)).f4, (cEntry (.mk a0 a1 a2 a3 a4 a5 a6)).f5, (cEntry (.mk a0 a1 a2 a3 a4 a5 a6)).f6) := by
 unfold p_laws_toEntry
 simp only [dEntry, zEntry] at h hz
 rw [toCode_ok n (h := by omega) (hz := by omega)]
 try simp only [Option.bind_some]
 rw [toCode_ok n (h := by omega) (hz := by omega)]
 try simp only [Option.bind_some]
 rfl
theorem eqEntry_ok (n : Nat) {a0 : List UInt8} {a1 : Int} {a2 : List S_impl_Fn} {a3 : List S_impl_Pat} {a4 : Bool} {a5 : List S_impl_Fn} {a6 : List S_impl_Pat} (h : wEntry (.mk a0 a1 a2 a3 a4 a5 a6) < n) (hn : n ≤ 4611686018427387904) : p_laws_eqEntry n a0 a1 a2 a3 a4 a5 a6 a0 a1 a2 a3 a4 a5 a6 = some true := by
 unfold p_laws_eqEntry
 simp only [wEntry] at h
 try simp only [decide_true, beq_self_eq_true, Bool.not_true, cond_false]
 rw [eqCode_ok n (h := by omega) (hn := hn)]
 simp only [Option.bind_some, decide_true, beq_self_eq_true, Bool.not_true, cond_false]
 rw [eqCode_ok n (h := by omega) (hn := hn)]
 simp only [Option.bind_some, decide_true, beq_self_eq_true, Bool.not_true, cond_false]
theorem wEntry_c (a : S_laws_Entry) : wEntry (cEntry a) = dEntry a := by
 cases a
 simp only [cEntry, wEntry, dEntry, S_impl_Code_eta, wCode_c, wCode_c]
theorem dEntry_z (a : S_laws_Entry) : dEntry a ≤ 5 * zEntry a + 13 := by
 obtain ⟨a0, a1, a2, a3, a4, a5, a6⟩ := a
 have := dCode_z (.mk a2 a3)
 have := dCode_z (.mk a5 a6)
 show 3 + a0.length + dCode (.mk a2 a3) + dCode (.mk a5 a6) ≤ 5 * (a0.length + zCode (.mk a2 a3) + zCode (.mk a5 a6)) + 13
 omega
def cEntrys (l : List S_laws_Entry) : List S_impl_Entry := l.map cEntry
theorem szEntryS_ok (n : Nat) (l : List S_laws_Entry) (left : Int) (h : dl dEntry l < n) (hl : l.length ≤ maxLen) (ho : ∀ a ∈ l, okEntry a) (h0 : 0 ≤ left) (h1 : left ≤ 1048576) : p_laws_szEntryS n l left = some (if (zl zEntry l : Int) ≤ left then left - zl zEntry l else -1) := by
 unfold p_laws_szEntryS
 have h2 := dl_len dEntry l
 have ez : zl zEntry l = l.length + sumz zEntry l := rfl
 rw [ez, sub_ok hl h0 h1]
 by_cases c : left - (l.length : Int) < 0
 ·rw [decide_eq_true c, cond_true, if_neg (by omega)]
 rw [decide_eq_false c, cond_false]
 rw [loop_sz l zEntry (fun i a t ha t0 t1 => by
  have hm := List.mem_of_getElem? ha
  have hd := dl_mem dEntry hm
  have hi := lt_len ha
  simp only [p_laws_szEntryS_b1, lt_int ha, cond_true, ix_nat, ha, Option.bind_some, wrap_succ (show i < 4611686018427387904 by simp only [maxLen] at hl; omega)]
  rw [szEntry_ok n (h := by rw [S_laws_Entry_eta]; omega) (ho := by rw [S_laws_Entry_eta]; exact ho a hm) (h0 := t0) (h1 := t1), S_laws_Entry_eta]
  by_cases c2 : (zEntry a : Int) ≤ t
  ·rw [if_pos c2, if_pos c2, Option.bind_some, decide_eq_false (by omega), cond_false]
  ·rw [if_neg c2, if_neg c2]; rfl) (fun t => by simp only [p_laws_szEntryS_b1, not_lt_int, cond_false]) (by omega) (by omega) (by omega)]
 by_cases c2 : (sumz zEntry l : Int) ≤ left - l.length
 ·rw [if_pos c2, if_pos (by omega)]
  simp only [Option.bind_some, Option.some.injEq]; omega
 ·rw [if_neg c2, if_neg (by omega)]; rfl
theorem toEntryS_ok (n : Nat) (l : List S_laws_Entry) (h : dl dEntry l < n) (hz : zl zEntry l ≤ 1048576) : p_laws_toEntryS n l = some (cEntrys l) := by
 unfold p_laws_toEntryS
 have h2 := dl_len dEntry l
 have ez : zl zEntry l = l.length + sumz zEntry l := rfl
 have hc : decide (0 ≤ (l.length : Int) ∧ (l.length : Int) ≤ maxLen ∧ 128 * (l.length : Int) ≤ 281474976710656) = true := decide_eq_true ⟨by omega, by simp only [maxLen]; omega, by omega⟩
 rw [hc]
 simp only [ck, cond_true, Option.bind_some, Int.toNat_natCast]
 rw [loop_to l cEntry _ (fun i a o b ha hb => by
  have hm := List.mem_of_getElem? ha
  have hd := dl_mem dEntry hm
  have hi := lt_len ha
  have hs := sumz_mem zEntry hm
  simp only [p_laws_toEntryS_b1, lt_int ha, cond_true, ix_nat, ha, hb, Option.bind_some, wrap_succ (show i < 4611686018427387904 by omega), Int.toNat_natCast]
  rw [toEntry_ok n (h := by rw [S_laws_Entry_eta]; omega) (hz := by rw [S_laws_Entry_eta]; omega)]
  simp only [Option.bind_some, S_laws_Entry_eta, S_impl_Entry_eta]) (fun o => by simp only [p_laws_toEntryS_b1, not_lt_int, cond_false]) (by omega)]
 rfl
theorem eqEntryS_ok (n : Nat) (l : List S_impl_Entry) (h : dl wEntry l < n) (hn : n ≤ 4611686018427387904) : p_laws_eqEntryS n l l = some true := by
 unfold p_laws_eqEntryS
 have h2 := dl_len wEntry l
 simp only [decide_true, Bool.not_true, cond_false]
 rw [loop_eq l (fun i a ha => by
  have hm := List.mem_of_getElem? ha
  have hd := dl_mem wEntry hm
  have hi := lt_len ha
  simp only [p_laws_eqEntryS_b1, lt_int ha, cond_true, ix_nat, ha, Option.bind_some, wrap_succ (show i < 4611686018427387904 by omega)]
  rw [eqEntry_ok n (h := by rw [S_impl_Entry_eta]; omega) (hn := hn)]
  rfl) (by simp only [p_laws_eqEntryS_b1, not_lt_int, cond_false]) (by omega)]
 rfl
theorem dl_cEntry (l : List S_laws_Entry) : dl wEntry (cEntrys l) = dl dEntry l := by
 unfold cEntrys
 rw [dl_map]
 exact dl_congr fun a _ => wEntry_c a
end Go.Own.Q
