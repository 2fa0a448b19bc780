/- How many terms there are in one: both packages count the same. No conditions. -/
import Derived.Test.YtgeomhdbckjkcaaW16TermOkB
set_option linter.unusedVariables false
set_option linter.unusedSimpArgs false
set_option linter.unnecessarySimpa false
namespace Go.Own.Q
open Go Go.Proofs

mutual
def cnt : S_impl_Term → Nat
 | .mk _ _ _ l => 1 + cnts l
def cnts : List S_impl_Term → Nat
 | [] => 0
 | x :: r => cnt x + cnts r
end
theorem cnt_pos (x : S_impl_Term) : 1 ≤ cnt x := by cases x; simp only [cnt]; omega
theorem cnts_cons (x : S_impl_Term) (r : List S_impl_Term) : cnts (x :: r) = cnt x + cnts r := by simp only [cnts]
/-- So deep at most, and each as told. -/
def okD : Nat → S_impl_Term → Bool
 | 0, _ => false
 | d + 1, x => shape x.f0 x.f1 x.f2 x.f3.length && x.f3.all (okD d)
/-- So deep at most, so many at most. -/
def okN (d : Nat) (m : Int) (x : S_impl_Term) : Bool := okD d x && decide ((cnt x : Int) ≤ m)
def termOk (x : S_impl_Term) : Bool := okN 8 300 x
def oksN (d : Nat) (m : Int) (l : List S_impl_Term) : Bool := l.all (okD d) && decide ((cnts l : Int) ≤ m)
theorem oksN_nil (d : Nat) {m : Int} (h : 0 ≤ m) : oksN d m [] = true := by
 simp [oksN, cnts, h]
theorem oksN_cons (d : Nat) (m : Int) (x : S_impl_Term) (r : List S_impl_Term) (h : 0 ≤ m) : oksN d m (x :: r) = (okN d m x && oksN d (m - cnt x) r) := by
 unfold oksN okN
 rw [cnts_cons, List.all_cons]
 by_cases h1 : (cnts r : Int) ≤ m - cnt x
 ·rw [decide_eq_true h1, decide_eq_true (show (cnt x : Int) ≤ m by omega), decide_eq_true (by omega)]
  cases okD d x <;> cases r.all (okD d) <;> rfl
 ·rw [decide_eq_false h1, decide_eq_false (show ¬ ((cnt x + cnts r : Nat) : Int) ≤ m by omega)]
  cases okD d x <;> cases r.all (okD d) <;> simp
theorem okN_mk (d : Nat) (m : Int) (a0 a1 : Int) (a2 : List UInt8) (a3 : List S_impl_Term) : okN (d + 1) m (.mk a0 a1 a2 a3) = (shape a0 a1 a2 a3.length && oksN d (m - 1) a3) := by
 unfold okN oksN
 have e : cnt (.mk a0 a1 a2 a3) = 1 + cnts a3 := by simp only [cnt]
 rw [e]
 have e2 : okD (d + 1) (.mk a0 a1 a2 a3) = (shape a0 a1 a2 a3.length && a3.all (okD d)) := rfl
 rw [e2, Bool.and_assoc]
 congr 2
 by_cases h : (cnts a3 : Int) ≤ m - 1
 ·rw [decide_eq_true h, decide_eq_true (by omega)]
 ·rw [decide_eq_false h, decide_eq_false (by omega)]
theorem okN_zero (m : Int) (x : S_impl_Term) : okN 0 m x = false := rfl
theorem okN_le {d : Nat} {m : Int} {x : S_impl_Term} (h : okN d m x = true) : (cnt x : Int) ≤ m := by
 unfold okN at h
 simp only [Bool.and_eq_true, decide_eq_true_eq] at h
 exact h.2
theorem oksN_le {d : Nat} {m : Int} {x : List S_impl_Term} (h : oksN d m x = true) : (cnts x : Int) ≤ m := by
 unfold oksN at h
 simp only [Bool.and_eq_true, decide_eq_true_eq] at h
 exact h.2

/-- What measure answers. -/
def mv (d : Nat) (x : S_impl_Term) : Int := bif okN d 300 x then cnt x else 301
theorem mv_le (d : Nat) (x : S_impl_Term) : 1 ≤ mv d x ∧ mv d x ≤ 301 := by
 unfold mv
 cases h : okN d 300 x with
 | true => have := okN_le h; have := cnt_pos x; simp only [cond_true]; omega
 | false => simp only [cond_false]; omega
def mstep (d : Nat) (t : Int) (a : S_impl_Term) : Int ⊕ Unit := bif decide (300 < t + mv d a) then .inr () else .inl (t + mv d a)
theorem measure_scan (d : Nat) : ∀ (l : List S_impl_Term) (t : Int), 0 ≤ t → t ≤ 300 → scan (mstep d) l t = bif oksN d (300 - t) l then .inl (t + cnts l) else .inr ()
 | [], t, h0, h1 => by rw [oksN_nil d (by omega)]; simp [scan, cnts]
 | a :: r, t, h0, h1 => by
  rw [oksN_cons d _ _ _ (by omega)]
  have ec := cnts_cons a r
  generalize cnts (a :: r) = q at ec ⊢
  have hp := cnt_pos a
  simp only [scan]
  have key : okN d (300 - t) a = (okN d 300 a && decide (t + cnt a ≤ 300)) := by
   unfold okN
   rw [Bool.and_assoc]
   congr 1
   by_cases h : (cnt a : Int) ≤ 300 - t
   ·rw [decide_eq_true h, decide_eq_true (show (cnt a : Int) ≤ 300 by omega), decide_eq_true (by omega)]; rfl
   ·rw [decide_eq_false h, decide_eq_false (show ¬ t + (cnt a : Int) ≤ 300 by omega), Bool.and_false]
  rw [key]
  unfold mstep mv
  cases h : okN d 300 a with
  | false =>
   rw [cond_false, decide_eq_true (by omega)]; rfl
  | true =>
   rw [cond_true, Bool.true_and]
   by_cases h2 : t + (cnt a : Int) ≤ 300
   ·rw [decide_eq_true h2, decide_eq_false (by omega), cond_false, Bool.true_and]
    have ih := measure_scan d r (t + cnt a) (by omega) h2
    unfold mstep mv at ih
    simp only
    rw [ih, show (300 - t - (cnt a : Int)) = 300 - (t + cnt a) by omega, show t + (q : Int) = t + cnt a + cnts r by omega]
   ·rw [decide_eq_false h2, decide_eq_true (by omega)]; rfl

theorem measure_ok : ∀ (n : Nat) (a0 a1 : Int) (a2 : List UInt8) (a3 : List S_impl_Term) (d : Nat), d ≤ 8 → wTerm (.mk a0 a1 a2 a3) < n → n < 4611686018427387904 → p_impl_Term_measure n a0 a1 a2 a3 (9 - (d : Int)) = some (mv d (.mk a0 a1 a2 a3))
 | 0, a0, a1, a2, a3, d, hd, h, _ => by omega
 | n + 1, a0, a1, a2, a3, d, hd, h, hn => by
  rw [p_impl_Term_measure_succ]
  unfold s_impl_Term_measure
  simp only [wTerm, wTerms_dl] at h
  have hl := dl_len wTerm a3
  rw [plainOk_ok n a0 a1 a2 a3 (by omega) (by omega)]
  cases d with
  | zero =>
   rw [decide_eq_true (show (8 : Int) < 9 - ((0 : Nat) : Int) by omega)]
   rfl
  | succ d =>
   rw [decide_eq_false (show ¬ (8 : Int) < 9 - ((d + 1 : Nat) : Int) by omega)]
   have ec : cnt (.mk a0 a1 a2 a3) = 1 + cnts a3 := by simp only [cnt]
   unfold mv
   rw [okN_mk]
   generalize cnt (.mk a0 a1 a2 a3) = q at ec ⊢
   simp only [cond_false, Option.bind_some]
   cases hs : shape a0 a1 a2 a3.length with
   | false => rfl
   | true =>
    simp only [Bool.not_true, cond_false, Bool.true_and]
    have h1 := loop_scan (body := p_impl_Term_measure_b1 n (p_impl_Term_measure n) (9 - ((d + 1 : Nat) : Int)) a3) a3 (mstep d) (fun t i => (t, (i : Int))) (fun t => .inr (t, (a3.length : Int), false)) (fun _ => .inl 301) (fun t => 1 ≤ t ∧ t ≤ 300) (fun i a t ha ht => by
     have hm := dl_mem wTerm (List.mem_of_getElem? ha)
     have hi := lt_len ha
     have e : IntKind.wrap .i64 (9 - ((d + 1 : Nat) : Int) + 1) = 9 - (d : Int) := by rw [wrap_i64 (by omega) (by omega)]; omega
     have ih := measure_ok n a.f0 a.f1 a.f2 a.f3 d (by omega) (by rw [S_impl_Term_eta]; omega) (by omega)
     rw [S_impl_Term_eta] at ih
     simp only [p_impl_Term_measure_b1, lt_int ha, cond_true, ix_nat, ha, Option.bind_some, e, ih, wrap_succ (show i < 4611686018427387904 by omega)]
     have hb := mv_le d a
     rw [wrap_i64 (n := t + mv d a) (by omega) (by omega)]
     unfold mstep
     generalize mv d a = g at hb
     by_cases q : 300 < t + g
     ·right; exact ⟨(), by rw [decide_eq_true q]; rfl, by rw [decide_eq_true q, cond_true]⟩
     ·left; exact ⟨t + g, by rw [decide_eq_false q]; rfl, by omega, by rw [decide_eq_false q, cond_false]⟩) (fun t _ => by simp only [p_impl_Term_measure_b1, not_lt_int, cond_false]) (n := n) (by omega) (t0 := 1) ⟨by omega, by omega⟩
    rw [measure_scan d a3 1 (by omega) (by omega)] at h1
    have h1 : loopN (p_impl_Term_measure_b1 n (p_impl_Term_measure n) (9 - ((d + 1 : Nat) : Int)) a3) n ((1 : Int), (0 : Int)) = _ := h1
    rw [h1]
    cases oksN d (300 - 1) a3 with
    | true => simp only [cond_true, Option.bind_some, Option.some.injEq]; omega
    | false => rfl
theorem impl_TermOk_ok (n : Nat) (a0 a1 : Int) (a2 : List UInt8) (a3 : List S_impl_Term) (h : wTerm (.mk a0 a1 a2 a3) < n) (hn : n < 4611686018427387904) : p_impl_TermOk n a0 a1 a2 a3 = some (termOk (.mk a0 a1 a2 a3)) := by
 unfold p_impl_TermOk termOk
 have h1 := measure_ok n a0 a1 a2 a3 8 (by omega) h hn
 have h1 : p_impl_Term_measure n a0 a1 a2 a3 (1 : Int) = _ := h1
 rw [h1]
 unfold mv
 simp only [Option.bind_some, Option.some.injEq]
 cases q : okN 8 300 (.mk a0 a1 a2 a3) with
 | true => have := okN_le q; rw [cond_true]; exact decide_eq_true this
 | false => rfl

/-- What look answers. -/
def lk (d : Nat) (x : S_impl_Term) (t : Int) : Int := bif okN d t x then t - cnt x else -1
def lks (d : Nat) (l : List S_impl_Term) (t : Int) : Int := bif oksN d t l then t - cnts l else -1
def lstep (d : Nat) (t : Int) (a : S_impl_Term) : Int ⊕ Int := bif decide (0 ≤ t) then .inl (lk d a t) else .inr t
def either {α : Type} : α ⊕ α → α
 | .inl a => a
 | .inr a => a
theorem look_scan (d : Nat) : ∀ (l : List S_impl_Term) (t : Int), -1 ≤ t → either (scan (lstep d) l t) = bif decide (0 ≤ t) then lks d l t else t
 | [], t, h0 => by
  by_cases h : 0 ≤ t
  ·rw [decide_eq_true h]; unfold lks; rw [oksN_nil d h]; simp [scan, either, cnts]
  ·rw [decide_eq_false h]; rfl
 | a :: r, t, h0 => by
  simp only [scan]
  by_cases h : 0 ≤ t
  ·have e : lstep d t a = .inl (lk d a t) := by unfold lstep; rw [decide_eq_true h]; rfl
   rw [e, decide_eq_true h, cond_true]
   simp only
   unfold lks
   rw [oksN_cons d t a r h]
   have ec := cnts_cons a r
   generalize cnts (a :: r) = q at ec ⊢
   unfold lk
   cases ha : okN d t a with
   | false =>
    rw [cond_false, look_scan d r _ (by omega)]; rfl
   | true =>
    have := okN_le ha
    rw [cond_true, look_scan d r _ (by omega), decide_eq_true (by omega), cond_true, Bool.true_and]
    unfold lks
    rw [show t - (q : Int) = t - cnt a - cnts r by omega]
  ·have e : lstep d t a = .inr t := by unfold lstep; rw [decide_eq_false h]; rfl
   rw [e, decide_eq_false h]; rfl
theorem look_ok : ∀ (n : Nat) (a0 a1 : Int) (a2 : List UInt8) (a3 : List S_impl_Term) (d : Nat) (t : Int), d ≤ 8 → -1 ≤ t → t ≤ 300 → wTerm (.mk a0 a1 a2 a3) < n → n < 4611686018427387904 → p_spec_l2Look n a0 a1 a2 a3 (d : Int) t = some (lk d (.mk a0 a1 a2 a3) t)
 | 0, a0, a1, a2, a3, d, t, hd, _, _, h, _ => by omega
 | n + 1, a0, a1, a2, a3, d, t, hd, t0, t1, h, hn => by
  rw [p_spec_l2Look_succ]
  unfold s_spec_l2Look
  simp only [wTerm, wTerms_dl] at h
  have hl := dl_len wTerm a3
  rw [l2Shape_ok n a0 a1 a2 a3 (by omega) (by omega)]
  have hp := cnt_pos (.mk a0 a1 a2 a3)
  cases d with
  | zero =>
   rw [decide_eq_true (show ((0 : Nat) : Int) < 1 by omega)]
   rfl
  | succ d =>
   rw [decide_eq_false (show ¬ ((d + 1 : Nat) : Int) < 1 by omega)]
   by_cases ht : t < 1
   ·rw [decide_eq_true ht]
    unfold lk
    have : okN (d + 1) t (.mk a0 a1 a2 a3) = false := by
     cases q : okN (d + 1) t (.mk a0 a1 a2 a3) with
     | false => rfl
     | true => have := okN_le q; omega
    rw [this]; rfl
   rw [decide_eq_false ht]
   have ec : cnt (.mk a0 a1 a2 a3) = 1 + cnts a3 := by simp only [cnt]
   unfold lk
   rw [okN_mk]
   generalize cnt (.mk a0 a1 a2 a3) = q at ec hp ⊢
   simp only [cond_false, Option.bind_some]
   cases hs : shape a0 a1 a2 a3.length with
   | false => rfl
   | true =>
    simp only [Bool.not_true, cond_false, Bool.true_and]
    obtain ⟨x, h1, h2⟩ := loop_scanR (body := p_spec_l2Look_b1 n (p_spec_l2Look n) ((d + 1 : Nat) : Int) a3) a3 (lstep d) (fun t i => (t, (i : Int))) (fun t => (t, (a3.length : Int), false)) (fun q r => r.1 = q) (fun t => -1 ≤ t ∧ t ≤ 300) (fun i a t ha ht => by
     have hm := dl_mem wTerm (List.mem_of_getElem? ha)
     have hi := lt_len ha
     have e : IntKind.wrap .i64 (((d + 1 : Nat) : Int) - 1) = (d : Int) := by rw [wrap_i64 (by omega) (by omega)]; omega
     have ih := look_ok n a.f0 a.f1 a.f2 a.f3 d t (by omega) ht.1 ht.2 (by rw [S_impl_Term_eta]; omega) (by omega)
     rw [S_impl_Term_eta] at ih
     simp only [p_spec_l2Look_b1, lt_int ha, cond_true, ix_nat, ha, Option.bind_some, e, ih, wrap_succ (show i < 4611686018427387904 by omega)]
     unfold lstep
     by_cases q : 0 ≤ t
     ·left
      refine ⟨lk d a t, by rw [decide_eq_true q]; rfl, ?_, by rw [decide_eq_true q, cond_true]⟩
      unfold lk
      have := cnt_pos a
      cases q2 : okN d t a with
      | false => rw [cond_false]; omega
      | true => have := okN_le q2; rw [cond_true]; omega
     ·right
      exact ⟨t, _, by rw [decide_eq_false q]; rfl, by rw [decide_eq_false q, cond_false], rfl⟩) (fun t _ => by simp only [p_spec_l2Look_b1, not_lt_int, cond_false, Option.bind_some]) (n := n) (by omega) (t0 := t - 1) ⟨by omega, by omega⟩
    have h1 : loopN (p_spec_l2Look_b1 n (p_spec_l2Look n) ((d + 1 : Nat) : Int) a3) n (t - 1, (0 : Int)) = _ := h1
    rw [wrap_i64 (n := t - 1) (by omega) (by omega), h1]
    have h3 : x.1 = either (scan (lstep d) a3 (t - 1)) := by
     revert h2
     cases scan (lstep d) a3 (t - 1) with
     | inl t' => intro h2; rw [h2]; rfl
     | inr q => exact id
    rw [look_scan d a3 _ (by omega), decide_eq_true (by omega), cond_true] at h3
    obtain ⟨x1, x2, x3⟩ := x
    simp only at h3
    subst h3
    simp only [Option.bind_some, Option.some.injEq]
    unfold lks
    cases oksN d (t - 1) a3 with
    | true => simp only [cond_true]; omega
    | false => rfl
theorem spec_TermOk_ok (n : Nat) (a0 a1 : Int) (a2 : List UInt8) (a3 : List S_impl_Term) (h : wTerm (.mk a0 a1 a2 a3) < n) (hn : n < 4611686018427387904) : p_spec_TermOk n a0 a1 a2 a3 = some (termOk (.mk a0 a1 a2 a3)) := by
 unfold p_spec_TermOk termOk
 have h1 := look_ok n a0 a1 a2 a3 8 300 (by omega) (by omega) (by omega) h hn
 have h1 : p_spec_l2Look n a0 a1 a2 a3 (8 : Int) 300 = _ := h1
 rw [h1]
 unfold lk
 simp only [Option.bind_some, Option.some.injEq]
 cases q : okN 8 300 (.mk a0 a1 a2 a3) with
 | true => have := okN_le q; rw [cond_true]; exact decide_eq_true (by omega)
 | false => rfl
end Go.Own.Q
