/- What is written into slices in place, type by type, in plain Lean. No conditions. -/
import Derived.Test.YtgeomhdbckjkcaaW34Marks
set_option linter.unusedVariables false
set_option linter.unusedSimpArgs false
set_option linter.unnecessarySimpa false
namespace Go.Own.Q
open Go Go.Proofs

def mkStringS (l : List (List UInt8)) (k : Nat) : Nat × List (List UInt8) := mapAcc (fun k _ => (k + 1, mtxt k)) k l
def mkIntS (l : List Int) (k : Nat) : Nat × List Int := mapAcc (fun k _ => (k + 1, (k : Int))) k l
def mkByteS (l : List Int) (k : Nat) : Nat × List Int := mapAcc (fun k _ => (k + 1, IntKind.wrap .u8 (k : Int))) k l
theorem leStringS (l : List (List UInt8)) (k : Nat) : (mkStringS l k).1 ≤ k + dl List.length l := mapAcc_leW (fun a _ k => by simp only; omega) k
theorem geStringS (l : List (List UInt8)) (k : Nat) : k ≤ (mkStringS l k).1 := mapAcc_ge (fun a _ k => by simp only; omega) k
theorem leIntS (l : List Int) (k : Nat) : (mkIntS l k).1 ≤ k + dl (fun _ => 0) l := mapAcc_leW (fun a _ k => by simp only; omega) k
theorem geIntS (l : List Int) (k : Nat) : k ≤ (mkIntS l k).1 := mapAcc_ge (fun a _ k => by simp only; omega) k
theorem leByteS (l : List Int) (k : Nat) : (mkByteS l k).1 ≤ k + dl (fun _ => 0) l := mapAcc_leW (fun a _ k => by simp only; omega) k
theorem geByteS (l : List Int) (k : Nat) : k ≤ (mkByteS l k).1 := mapAcc_ge (fun a _ k => by simp only; omega) k

def mkIns (k : Nat) : S_impl_Ins → Nat × S_impl_Ins
 | .mk a0 a1 a2 a3 => (k + 1 + 1 + 1 + 1, .mk (((k : Nat) : Int)) (((k + 1 : Nat) : Int)) (mtxt (k + 1 + 1)) (((k + 1 + 1 + 1 : Nat) : Int)))
theorem mkIns_le (a : S_impl_Ins) (k : Nat) : (mkIns k a).1 ≤ k + wIns a := by
 obtain ⟨a0, a1, a2, a3⟩ := a
 have e : wIns (.mk a0 a1 a2 a3) = (4 + a2.length) := rfl
 show k + 1 + 1 + 1 + 1 ≤ k + wIns (.mk a0 a1 a2 a3)
 omega
theorem mkIns_ge (a : S_impl_Ins) (k : Nat) : k ≤ (mkIns k a).1 := by
 obtain ⟨a0, a1, a2, a3⟩ := a
 show k ≤ k + 1 + 1 + 1 + 1
 omega
def mkInsS (l : List S_impl_Ins) (k : Nat) : Nat × List S_impl_Ins := mapAcc mkIns k l
theorem leInsS (l : List S_impl_Ins) (k : Nat) : (mkInsS l k).1 ≤ k + dl wIns l := mapAcc_le (fun a _ k => mkIns_le a k) k
theorem geInsS (l : List S_impl_Ins) (k : Nat) : k ≤ (mkInsS l k).1 := mapAcc_ge (fun a _ k => mkIns_ge a k) k
theorem markInsS_ok (n : Nat) (hn : n ≤ 1099511627776) (l : List S_impl_Ins) (k : Nat) (h : 20 + dl wIns l < n) (hk : 0 < k) (hB : k + dl wIns l ≤ 1099511627776) : p_laws_markInsS n l (k : Int) = some (((mkInsS l k).1 : Int), (mkInsS l k).2) := by
 unfold p_laws_markInsS
 have h2 := dl_len wIns l
 have hl := loop_mark (body := p_laws_markInsS_b1 n) mkIns wIns (B := 1099511627776) (C := dl wIns l) (fun a k => mkIns_le a k) (len := l.length) (fun L s i a hL ha hs hb hc => by
  have hi := lt_len ha
  obtain ⟨a0, a1, a2, a3⟩ := a
  have e : wIns (.mk a0 a1 a2 a3) = (4 + a2.length) := rfl
  rw [e] at hb hc
  have g : mkIns s (.mk a0 a1 a2 a3) = (s + 1 + 1 + 1 + 1, .mk (((s : Nat) : Int)) (((s + 1 : Nat) : Int)) (mtxt (s + 1 + 1)) (((s + 1 + 1 + 1 : Nat) : Int))) := rfl
  rw [g]
  simp only [p_laws_markInsS_b1, decide_eq_true (show (i : Int) < (L.length : Int) by omega), cond_true, ix_nat, ha, Option.bind_some, Int.toNat_natCast, List.set_set, List.getElem?_set_self hi, wrap_succ (show i < 4611686018427387904 by omega), wrap_nat (show s < 4611686018427387904 by omega), wrap_nat (show s + 1 < 4611686018427387904 by omega), wrap_nat (show s + 1 + 1 < 4611686018427387904 by omega), wrap_nat (show s + 1 + 1 + 1 < 4611686018427387904 by omega), markText_ok n (s + 1 + 1) (by omega) (by omega) (by omega)]) (fun L s hL => by rw [← hL]; simp only [p_laws_markInsS_b1, not_lt_int, cond_false]) (fun a k => mkIns_ge a k) l [] k n rfl hk hB (Nat.le_refl _) (by omega)
 refine (congrArg (fun q => Option.bind q _) hl).trans ?_
 simp only [Option.bind_some, List.nil_append]
 rfl
theorem heldInsS_ok (n : Nat) (hn : n ≤ 1099511627776) (l : List S_impl_Ins) (k : Nat) (h : 20 + dl wIns l < n) (hk : 0 < k) (hB : k + dl wIns l ≤ 1099511627776) : p_laws_heldInsS n (mkInsS l k).2 (k : Int) = some ((mkInsS l k).1 : Int) := by
 unfold p_laws_heldInsS
 have h2 := dl_len wIns l
 have hl := loop_held (body := p_laws_heldInsS_b1 n (mkInsS l k).2) mkIns wIns (B := 1099511627776) (C := dl wIns l) (fun a k => mkIns_le a k) (fun a k => mkIns_ge a k) (L := (mkInsS l k).2) (out := fun s => .inr ((s : Int), ((mkInsS l k).2.length : Int), false)) (fun s i a ha hs hb hc => by
  have hi := lt_len ha
  have hll : (mkInsS l k).2.length = l.length := mapAcc_len mkIns l k
  obtain ⟨a0, a1, a2, a3⟩ := a
  have e : wIns (.mk a0 a1 a2 a3) = (4 + a2.length) := rfl
  rw [e] at hb hc
  have g : mkIns s (.mk a0 a1 a2 a3) = (s + 1 + 1 + 1 + 1, .mk (((s : Nat) : Int)) (((s + 1 : Nat) : Int)) (mtxt (s + 1 + 1)) (((s + 1 + 1 + 1 : Nat) : Int))) := rfl
  rw [g] at ha ⊢
  simp only [p_laws_heldInsS_b1, lt_int ha, cond_true, ix_nat, ha, Option.bind_some, decide_true, beq_self_eq_true, Bool.not_true, cond_false, wrap_succ (show i < 4611686018427387904 by omega), wrap_nat (show s < 4611686018427387904 by omega), wrap_nat (show s + 1 < 4611686018427387904 by omega), wrap_nat (show s + 1 + 1 < 4611686018427387904 by omega), wrap_nat (show s + 1 + 1 + 1 < 4611686018427387904 by omega), markText_ok n (s + 1 + 1) (by omega) (by omega) (by omega)]) (fun s => by simp only [p_laws_heldInsS_b1, not_lt_int, cond_false]) l [] k n rfl hk hB (Nat.le_refl _) (by omega)
 refine (congrArg (fun q => Option.bind q _) hl).trans ?_
 simp only [Option.bind_some]
 rfl
mutual
def mkPat : S_impl_Pat → Nat → Nat × S_impl_Pat
 | .mk _ _ _ l, k => ((mkPatS l (k + 3)).1, .mk (k : Int) ((k + 1 : Nat) : Int) (mtxt (k + 2)) (mkPatS l (k + 3)).2)
def mkPatS : List S_impl_Pat → Nat → Nat × List S_impl_Pat
 | [], k => (k, [])
 | a :: r, k => ((mkPatS r (mkPat a k).1).1, (mkPat a k).2 :: (mkPatS r (mkPat a k).1).2)
end
theorem mkPatS_acc : ∀ (l : List S_impl_Pat) (k : Nat), mkPatS l k = mapAcc (fun k a => mkPat a k) k l
 | [], k => rfl
 | a :: r, k => by simp only [mkPatS, mapAcc, mkPatS_acc r]
mutual
theorem mkPat_le : ∀ (a : S_impl_Pat) (k : Nat), (mkPat a k).1 ≤ k + wPat a
 | .mk _ _ s l, k => by have := mkPatS_le l (k + 3); simp only [mkPat, wPat]; omega
theorem mkPatS_le : ∀ (l : List S_impl_Pat) (k : Nat), (mkPatS l k).1 ≤ k + wPats l
 | [], k => by simp [mkPatS]
 | a :: r, k => by have := mkPat_le a k; have := mkPatS_le r (mkPat a k).1; simp only [mkPatS, wPats]; omega
end
mutual
theorem mkPat_ge : ∀ (a : S_impl_Pat) (k : Nat), k ≤ (mkPat a k).1
 | .mk _ _ s l, k => by have := mkPatS_ge l (k + 3); simp only [mkPat]; omega
theorem mkPatS_ge : ∀ (l : List S_impl_Pat) (k : Nat), k ≤ (mkPatS l k).1
 | [], k => by simp [mkPatS]
 | a :: r, k => by have := mkPat_ge a k; have := mkPatS_ge r (mkPat a k).1; simp only [mkPatS]; omega
end
theorem p_laws_markPatS_succ (n : Nat) : p_laws_markPatS (n + 1) = s_laws_markPatS n (p_laws_markPatS n) := rfl
theorem p_laws_heldPatS_succ (n : Nat) : p_laws_heldPatS (n + 1) = s_laws_heldPatS n (p_laws_heldPatS n) := rfl
theorem markPatS_ok : ∀ (n : Nat), n ≤ 1099511627776 → ∀ (l : List S_impl_Pat) (k : Nat), 20 + dl wPat l < n → 0 < k → k + dl wPat l ≤ 1099511627776 → p_laws_markPatS n l (k : Int) = some (((mkPatS l k).1 : Int), (mkPatS l k).2)
 | 0, _ => fun l k h => by omega
 | n + 1, hn => fun l k h hk hB => by
  have ih := markPatS_ok n (by omega)
  rw [p_laws_markPatS_succ]
  unfold s_laws_markPatS
  have h2 := dl_len wPat l
  have hl := loop_mark (body := p_laws_markPatS_b1 n (p_laws_markPatS n)) (fun k a => mkPat a k) wPat (B := 1099511627776) (C := dl wPat l) (fun a k => mkPat_le a k) (len := l.length) (fun L s i a hL ha hs hb hc => by
   have hi := lt_len ha
   obtain ⟨a0, a1, a2, a3⟩ := a
   simp only [wPat, wPats_dl] at hb hc
   have hw := dl_len wPat a3
   simp only [p_laws_markPatS_b1, decide_eq_true (show (i : Int) < (L.length : Int) by omega), cond_true, ix_nat, ha, Option.bind_some, Int.toNat_natCast, List.set_set, List.getElem?_set_self hi, S_impl_Pat.f0, S_impl_Pat.f1, S_impl_Pat.f2, S_impl_Pat.f3,
    wrap_nat (show s < 4611686018427387904 by omega), wrap_nat (show s + 1 < 4611686018427387904 by omega), wrap_nat (show s + 1 + 1 < 4611686018427387904 by omega), wrap_succ (show i < 4611686018427387904 by omega), markText_ok n (s + 1 + 1) (by omega) (by omega) (by omega), ih a3 (s + 1 + 1 + 1) (by omega) (by omega) (by omega)]
   rfl) (fun L s hL => by rw [← hL]; simp only [p_laws_markPatS_b1, not_lt_int, cond_false]) (fun a k => mkPat_ge a k) l [] k n rfl hk hB (Nat.le_refl _) (by omega)
  refine (congrArg (fun q => Option.bind q _) hl).trans ?_
  simp only [Option.bind_some, List.nil_append, mkPatS_acc]
theorem heldPatS_ok : ∀ (n : Nat), n ≤ 1099511627776 → ∀ (l : List S_impl_Pat) (k : Nat), 20 + dl wPat l < n → 0 < k → k + dl wPat l ≤ 1099511627776 → p_laws_heldPatS n (mkPatS l k).2 (k : Int) = some ((mkPatS l k).1 : Int)
 | 0, _ => fun l k h => by omega
 | n + 1, hn => fun l k h hk hB => by
  have ih := heldPatS_ok n (by omega)
  rw [p_laws_heldPatS_succ]
  unfold s_laws_heldPatS
  have h2 := dl_len wPat l
  have hlen : (mkPatS l k).2.length = l.length := by rw [mkPatS_acc, mapAcc_len]
  have hl := loop_held (body := p_laws_heldPatS_b1 n (p_laws_heldPatS n) (mkPatS l k).2) (fun k a => mkPat a k) wPat (B := 1099511627776) (C := dl wPat l) (fun a k => mkPat_le a k) (fun a k => mkPat_ge a k) (L := (mkPatS l k).2) (out := fun s => .inr ((s : Int), ((mkPatS l k).2.length : Int), false)) (fun s i a ha hs hb hc => by
   have hi := lt_len ha
   obtain ⟨a0, a1, a2, a3⟩ := a
   simp only [wPat, wPats_dl] at hb hc
   have hw := dl_len wPat a3
   have hg := mkPatS_ge a3 (s + 3)
   simp only [mkPat] at ha ⊢
   simp only [p_laws_heldPatS_b1, lt_int ha, cond_true, ix_nat, ha, Option.bind_some, S_impl_Pat.f0, S_impl_Pat.f1, S_impl_Pat.f2, S_impl_Pat.f3, decide_true, Bool.not_true, cond_false,
    wrap_nat (show s < 4611686018427387904 by omega), wrap_nat (show s + 1 < 4611686018427387904 by omega), wrap_nat (show s + 1 + 1 < 4611686018427387904 by omega), wrap_succ (show i < 4611686018427387904 by omega), markText_ok n (s + 1 + 1) (by omega) (by omega) (by omega), ih a3 (s + 3) (by omega) (by omega) (by omega),
    decide_eq_false (show ¬ ((mkPatS a3 (s + 3)).1 : Int) < 0 by omega)]) (fun s => by simp only [p_laws_heldPatS_b1, not_lt_int, cond_false]) l [] k n (by rw [List.nil_append, mkPatS_acc]) hk hB (Nat.le_refl _) (by omega)
  refine (congrArg (fun q => Option.bind q _) hl).trans ?_
  simp only [Option.bind_some, mkPatS_acc]
theorem lePatS (l : List S_impl_Pat) (k : Nat) : (mkPatS l k).1 ≤ k + dl wPat l := by have := mkPatS_le l k; rw [wPats_dl] at this; exact this
theorem gePatS (l : List S_impl_Pat) (k : Nat) : k ≤ (mkPatS l k).1 := mkPatS_ge l k

def mkFn (k : Nat) : S_impl_Fn → Nat × S_impl_Fn
 | .mk a0 a1 a2 a3 => ((mkInsS a3 (k + 1 + 1 + 1)).1, .mk (mtxt (k)) (((k + 1 : Nat) : Int)) (((k + 1 + 1 : Nat) : Int)) ((mkInsS a3 (k + 1 + 1 + 1)).2))
theorem mkFn_le (a : S_impl_Fn) (k : Nat) : (mkFn k a).1 ≤ k + wFn a := by
 obtain ⟨a0, a1, a2, a3⟩ := a
 have := leInsS a3 (k + 1 + 1 + 1)
 have e : wFn (.mk a0 a1 a2 a3) = (3 + a0.length + dl wIns a3) := rfl
 show (mkInsS a3 (k + 1 + 1 + 1)).1 ≤ k + wFn (.mk a0 a1 a2 a3)
 omega
theorem mkFn_ge (a : S_impl_Fn) (k : Nat) : k ≤ (mkFn k a).1 := by
 obtain ⟨a0, a1, a2, a3⟩ := a
 have := geInsS a3 (k + 1 + 1 + 1)
 show k ≤ (mkInsS a3 (k + 1 + 1 + 1)).1
 omega
def mkFnS (l : List S_impl_Fn) (k : Nat) : Nat × List S_impl_Fn := mapAcc mkFn k l
theorem leFnS (l : List S_impl_Fn) (k : Nat) : (mkFnS l k).1 ≤ k + dl wFn l := mapAcc_le (fun a _ k => mkFn_le a k) k
theorem geFnS (l : List S_impl_Fn) (k : Nat) : k ≤ (mkFnS l k).1 := mapAcc_ge (fun a _ k => mkFn_ge a k) k
theorem markFnS_ok (n : Nat) (hn : n ≤ 1099511627776) (l : List S_impl_Fn) (k : Nat) (h : 20 + dl wFn l < n) (hk : 0 < k) (hB : k + dl wFn l ≤ 1099511627776) : p_laws_markFnS n l (k : Int) = some (((mkFnS l k).1 : Int), (mkFnS l k).2) := by
 unfold p_laws_markFnS
 have h2 := dl_len wFn l
 have hl := loop_mark (body := p_laws_markFnS_b1 n) mkFn wFn (B := 1099511627776) (C := dl wFn l) (fun a k => mkFn_le a k) (len := l.length) (fun L s i a hL ha hs hb hc => by
  have hi := lt_len ha
  obtain ⟨a0, a1, a2, a3⟩ := a
  have e : wFn (.mk a0 a1 a2 a3) = (3 + a0.length + dl wIns a3) := rfl
  rw [e] at hb hc
  have g : mkFn s (.mk a0 a1 a2 a3) = ((mkInsS a3 (s + 1 + 1 + 1)).1, .mk (mtxt (s)) (((s + 1 : Nat) : Int)) (((s + 1 + 1 : Nat) : Int)) ((mkInsS a3 (s + 1 + 1 + 1)).2)) := rfl
  rw [g]
  have q1 := leInsS a3 (s + 1 + 1 + 1)
  have r1 := geInsS a3 (s + 1 + 1 + 1)
  have m1 := markInsS_ok n hn a3 (s + 1 + 1 + 1) (by omega) (by omega) (by omega)
  generalize mkInsS a3 (s + 1 + 1 + 1) = t1 at *
  obtain ⟨u1, b1⟩ := t1
  simp only at q1 r1 m1 ⊢
  simp only [p_laws_markFnS_b1, decide_eq_true (show (i : Int) < (L.length : Int) by omega), cond_true, ix_nat, ha, Option.bind_some, Int.toNat_natCast, List.set_set, List.getElem?_set_self hi, wrap_succ (show i < 4611686018427387904 by omega), wrap_nat (show s < 4611686018427387904 by omega), wrap_nat (show s + 1 < 4611686018427387904 by omega), wrap_nat (show s + 1 + 1 < 4611686018427387904 by omega), markText_ok n (s) (by omega) (by omega) (by omega), m1]) (fun L s hL => by rw [← hL]; simp only [p_laws_markFnS_b1, not_lt_int, cond_false]) (fun a k => mkFn_ge a k) l [] k n rfl hk hB (Nat.le_refl _) (by omega)
 refine (congrArg (fun q => Option.bind q _) hl).trans ?_
 simp only [Option.bind_some, List.nil_append]
 rfl
theorem heldFnS_ok (n : Nat) (hn : n ≤ 1099511627776) (l : List S_impl_Fn) (k : Nat) (h : 20 + dl wFn l < n) (hk : 0 < k) (hB : k + dl wFn l ≤ 1099511627776) : p_laws_heldFnS n (mkFnS l k).2 (k : Int) = some ((mkFnS l k).1 : Int) := by
 unfold p_laws_heldFnS
 have h2 := dl_len wFn l
 have hl := loop_held (body := p_laws_heldFnS_b1 n (mkFnS l k).2) mkFn wFn (B := 1099511627776) (C := dl wFn l) (fun a k => mkFn_le a k) (fun a k => mkFn_ge a k) (L := (mkFnS l k).2) (out := fun s => .inr ((s : Int), ((mkFnS l k).2.length : Int), false)) (fun s i a ha hs hb hc => by
  have hi := lt_len ha
  have hll : (mkFnS l k).2.length = l.length := mapAcc_len mkFn l k
  obtain ⟨a0, a1, a2, a3⟩ := a
  have e : wFn (.mk a0 a1 a2 a3) = (3 + a0.length + dl wIns a3) := rfl
  rw [e] at hb hc
  have g : mkFn s (.mk a0 a1 a2 a3) = ((mkInsS a3 (s + 1 + 1 + 1)).1, .mk (mtxt (s)) (((s + 1 : Nat) : Int)) (((s + 1 + 1 : Nat) : Int)) ((mkInsS a3 (s + 1 + 1 + 1)).2)) := rfl
  rw [g] at ha ⊢
  have q1 := leInsS a3 (s + 1 + 1 + 1)
  have r1 := geInsS a3 (s + 1 + 1 + 1)
  have m1 := heldInsS_ok n hn a3 (s + 1 + 1 + 1) (by omega) (by omega) (by omega)
  generalize mkInsS a3 (s + 1 + 1 + 1) = t1 at *
  obtain ⟨u1, b1⟩ := t1
  simp only at q1 r1 m1 ha ⊢
  simp only [p_laws_heldFnS_b1, lt_int ha, cond_true, ix_nat, ha, Option.bind_some, decide_true, beq_self_eq_true, Bool.not_true, cond_false, wrap_succ (show i < 4611686018427387904 by omega), wrap_nat (show s < 4611686018427387904 by omega), wrap_nat (show s + 1 < 4611686018427387904 by omega), wrap_nat (show s + 1 + 1 < 4611686018427387904 by omega), markText_ok n (s) (by omega) (by omega) (by omega), m1, decide_eq_false (show ¬ (u1 : Int) < 0 by omega)]) (fun s => by simp only [p_laws_heldFnS_b1, not_lt_int, cond_false]) l [] k n rfl hk hB (Nat.le_refl _) (by omega)
 refine (congrArg (fun q => Option.bind q _) hl).trans ?_
 simp only [Option.bind_some]
 rfl
def mkEntry (k : Nat) : S_impl_Entry → Nat × S_impl_Entry
 | .mk a0 a1 a2 a3 a4 a5 a6 => ((mkPatS a6 ((mkFnS a5 ((mkPatS a3 ((mkFnS a2 (k + 1 + 1)).1)).1 + 1)).1)).1, .mk (mtxt (k)) (((k + 1 : Nat) : Int)) ((mkFnS a2 (k + 1 + 1)).2) ((mkPatS a3 ((mkFnS a2 (k + 1 + 1)).1)).2) (decide (Int.tmod (((mkPatS a3 ((mkFnS a2 (k + 1 + 1)).1)).1 : Nat) : Int) 3 = 0)) ((mkFnS a5 ((mkPatS a3 ((mkFnS a2 (k + 1 + 1)).1)).1 + 1)).2) ((mkPatS a6 ((mkFnS a5 ((mkPatS a3 ((mkFnS a2 (k + 1 + 1)).1)).1 + 1)).1)).2))
theorem mkEntry_le (a : S_impl_Entry) (k : Nat) : (mkEntry k a).1 ≤ k + wEntry a := by
 obtain ⟨a0, a1, a2, a3, a4, a5, a6⟩ := a
 have := leFnS a2 (k + 1 + 1)
 have := lePatS a3 ((mkFnS a2 (k + 1 + 1)).1)
 have := leFnS a5 ((mkPatS a3 ((mkFnS a2 (k + 1 + 1)).1)).1 + 1)
 have := lePatS a6 ((mkFnS a5 ((mkPatS a3 ((mkFnS a2 (k + 1 + 1)).1)).1 + 1)).1)
 have e : wEntry (.mk a0 a1 a2 a3 a4 a5 a6) = (3 + a0.length + (3 + dl wFn a2 + dl wPat a3) + (3 + dl wFn a5 + dl wPat a6)) := rfl
 show (mkPatS a6 ((mkFnS a5 ((mkPatS a3 ((mkFnS a2 (k + 1 + 1)).1)).1 + 1)).1)).1 ≤ k + wEntry (.mk a0 a1 a2 a3 a4 a5 a6)
 omega
theorem mkEntry_ge (a : S_impl_Entry) (k : Nat) : k ≤ (mkEntry k a).1 := by
 obtain ⟨a0, a1, a2, a3, a4, a5, a6⟩ := a
 have := geFnS a2 (k + 1 + 1)
 have := gePatS a3 ((mkFnS a2 (k + 1 + 1)).1)
 have := geFnS a5 ((mkPatS a3 ((mkFnS a2 (k + 1 + 1)).1)).1 + 1)
 have := gePatS a6 ((mkFnS a5 ((mkPatS a3 ((mkFnS a2 (k + 1 + 1)).1)).1 + 1)).1)
 show k ≤ (mkPatS a6 ((mkFnS a5 ((mkPatS a3 ((mkFnS a2 (k + 1 + 1)).1)).1 + 1)).1)).1
 omega
def mkEntryS (l : List S_impl_Entry) (k : Nat) : Nat × List S_impl_Entry := mapAcc mkEntry k l
theorem leEntryS (l : List S_impl_Entry) (k : Nat) : (mkEntryS l k).1 ≤ k + dl wEntry l := mapAcc_le (fun a _ k => mkEntry_le a k) k
theorem geEntryS (l : List S_impl_Entry) (k : Nat) : k ≤ (mkEntryS l k).1 := mapAcc_ge (fun a _ k => mkEntry_ge a k) k
theorem markEntryS_ok (n : Nat) (hn : n ≤ 1099511627776) (l : List S_impl_Entry) (k : Nat) (h : 20 + dl wEntry l < n) (hk : 0 < k) (hB : k + dl wEntry l ≤ 1099511627776) : p_laws_markEntryS n l (k : Int) = some (((mkEntryS l k).1 : Int), (mkEntryS l k).2) := by
 unfold p_laws_markEntryS
 have h2 := dl_len wEntry l
 have hl := loop_mark (body := p_laws_markEntryS_b1 n) mkEntry wEntry (B := 1099511627776) (C := dl wEntry l) (fun a k => mkEntry_le a k) (len := l.length) (fun L s i a hL ha hs hb hc => by
  have hi := lt_len ha
  obtain ⟨a0, a1, a2, a3, a4, a5, a6⟩ := a
  have e : wEntry (.mk a0 a1 a2 a3 a4 a5 a6) = (3 + a0.length + (3 + dl wFn a2 + dl wPat a3) + (3 + dl wFn a5 + dl wPat a6)) := rfl
  rw [e] at hb hc
  have g : mkEntry s (.mk a0 a1 a2 a3 a4 a5 a6) = ((mkPatS a6 ((mkFnS a5 ((mkPatS a3 ((mkFnS a2 (s + 1 + 1)).1)).1 + 1)).1)).1, .mk (mtxt (s)) (((s + 1 : Nat) : Int)) ((mkFnS a2 (s + 1 + 1)).2) ((mkPatS a3 ((mkFnS a2 (s + 1 + 1)).1)).2) (decide (Int.tmod (((mkPatS a3 ((mkFnS a2 (s + 1 + 1)).1)).1 : Nat) : Int) 3 = 0)) ((mkFnS a5 ((mkPatS a3 ((mkFnS a2 (s + 1 + 1)).1)).1 + 1)).2) ((mkPatS a6 ((mkFnS a5 ((mkPatS a3 ((mkFnS a2 (s + 1 + 1)).1)).1 + 1)).1)).2)) := rfl
  rw [g]
  have q1 := leFnS a2 (s + 1 + 1)
  have r1 := geFnS a2 (s + 1 + 1)
  have m1 := markFnS_ok n hn a2 (s + 1 + 1) (by omega) (by omega) (by omega)
  generalize mkFnS a2 (s + 1 + 1) = t1 at *
  obtain ⟨u1, b1⟩ := t1
  simp only at q1 r1 m1 ⊢
  have q2 := lePatS a3 (u1)
  have r2 := gePatS a3 (u1)
  have m2 := markPatS_ok n hn a3 (u1) (by omega) (by omega) (by omega)
  generalize mkPatS a3 (u1) = t2 at *
  obtain ⟨u2, b2⟩ := t2
  simp only at q2 r2 m2 ⊢
  have q3 := leFnS a5 (u2 + 1)
  have r3 := geFnS a5 (u2 + 1)
  have m3 := markFnS_ok n hn a5 (u2 + 1) (by omega) (by omega) (by omega)
  generalize mkFnS a5 (u2 + 1) = t3 at *
  obtain ⟨u3, b3⟩ := t3
  simp only at q3 r3 m3 ⊢
  have q4 := lePatS a6 (u3)
  have r4 := gePatS a6 (u3)
  have m4 := markPatS_ok n hn a6 (u3) (by omega) (by omega) (by omega)
  generalize mkPatS a6 (u3) = t4 at *
  obtain ⟨u4, b4⟩ := t4
  simp only at q4 r4 m4 ⊢
  simp only [p_laws_markEntryS_b1, decide_eq_true (show (i : Int) < (L.length : Int) by omega), cond_true, ix_nat, ha, Option.bind_some, Int.toNat_natCast, List.set_set, List.getElem?_set_self hi, wrap_succ (show i < 4611686018427387904 by omega), wrap_nat (show s < 4611686018427387904 by omega), wrap_nat (show s + 1 < 4611686018427387904 by omega), wrap_nat (show u2 < 4611686018427387904 by omega), markText_ok n (s) (by omega) (by omega) (by omega), m1, m2, m3, m4]) (fun L s hL => by rw [← hL]; simp only [p_laws_markEntryS_b1, not_lt_int, cond_false]) (fun a k => mkEntry_ge a k) l [] k n rfl hk hB (Nat.le_refl _) (by omega)
 refine (congrArg (fun q => Option.bind q _) hl).trans ?_
 simp only [Option.bind_some, List.nil_append]
 rfl
end Go.Own.Q
