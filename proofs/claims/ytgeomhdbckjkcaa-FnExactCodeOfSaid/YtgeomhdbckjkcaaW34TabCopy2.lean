/- Copies of code and of tables; where an entry is. No conditions. -/
import Derived.Test.YtgeomhdbckjkcaaW34F34m
set_option linter.unusedVariables false
set_option linter.unusedSimpArgs false
set_option linter.unnecessarySimpa false
namespace Go.Own.Q
open Go Go.Proofs

theorem take_app {α : Type} {l : List α} {i : Nat} {a : α} (b : Nat) (ha : l[i]? = some a) (hl : l.length < 1099511627776) (hb : b ≤ 127) : app2 b (l.take i) [a] = some (l.take (i + 1)) := by
 have hi := lt_len ha
 rw [← take_succ' ha]
 refine app2_of ?_ (by simp only [List.length_take, List.length_singleton, maxLen]; omega)
 have : ((l.take i).length + [a].length) * b ≤ 1099511627776 * 127 := Nat.mul_le_mul (by simp only [List.length_take, List.length_singleton]; omega) hb
 omega
theorem l9CopyPat_oks : ∀ (n : Nat), n ≤ 1099511627776 → ∀ (a0 a1 : Int) (a2 : List UInt8) (a3 : List S_impl_Pat), wPat (.mk a0 a1 a2 a3) < n → p_spec_l9CopyPat n a0 a1 a2 a3 = some (a0, a1, a2, a3)
 | 0, _ => fun a0 a1 a2 a3 h => by omega
 | n + 1, hn => fun a0 a1 a2 l h => by
  have ih1 := l9CopyPat_oks n (by omega)
  rw [p_spec_l9CopyPat_succ]
  unfold s_spec_l9CopyPat
  simp only [wPat, wPats_dl] at h
  have h2 := dl_len wPat l
  have hl := loop_for (body := p_spec_l9CopyPat_b1 n (p_spec_l9CopyPat n) l) (fun i => ((i : Int), a0, a1, a2, l.take i)) (len := l.length) (r := ((l.length : Int), false, a0, a1, a2, l)) (fun i hi => by
   have ha : l[i]? = some l[i] := List.getElem?_eq_getElem hi
   generalize l[i] = a at ha
   have hd := dl_mem wPat (List.mem_of_getElem? ha)
   simp only [p_spec_l9CopyPat_b1, lt_int ha, cond_true, ix_nat, ha, Option.bind_some, ih1 a.f0 a.f1 a.f2 a.f3 (by rw [S_impl_Pat_eta]; omega), S_impl_Pat_eta, take_app 56 ha (by omega) (by omega), wrap_succ (show i < 4611686018427387904 by omega)]) (by simp only [p_spec_l9CopyPat_b1, not_lt_int, cond_false, List.take_length]) (n := n) (by omega)
  refine (congrArg (fun q => Option.bind q _) hl).trans ?_
  rfl
theorem copyPat_oks : ∀ (n : Nat), n ≤ 1099511627776 → ∀ (a0 a1 : Int) (a2 : List UInt8) (a3 : List S_impl_Pat), wPat (.mk a0 a1 a2 a3) < n → p_impl_copyPat n a0 a1 a2 a3 = some (a0, a1, a2, a3)
 | 0, _ => fun a0 a1 a2 a3 h => by omega
 | n + 1, hn => fun a0 a1 a2 l h => by
  have ih1 := copyPat_oks n (by omega)
  rw [p_impl_copyPat_succ]
  unfold s_impl_copyPat
  simp only [wPat, wPats_dl] at h
  have h2 := dl_len wPat l
  have hl := loop_for (body := p_impl_copyPat_b1 n (p_impl_copyPat n) l) (fun i => ((i : Int), a0, a1, a2, l.take i)) (len := l.length) (r := ((l.length : Int), false, a0, a1, a2, l)) (fun i hi => by
   have ha : l[i]? = some l[i] := List.getElem?_eq_getElem hi
   generalize l[i] = a at ha
   have hd := dl_mem wPat (List.mem_of_getElem? ha)
   simp only [p_impl_copyPat_b1, lt_int ha, cond_true, ix_nat, ha, Option.bind_some, ih1 a.f0 a.f1 a.f2 a.f3 (by rw [S_impl_Pat_eta]; omega), S_impl_Pat_eta, take_app 56 ha (by omega) (by omega), wrap_succ (show i < 4611686018427387904 by omega)]) (by simp only [p_impl_copyPat_b1, not_lt_int, cond_false, List.take_length]) (n := n) (by omega)
  refine (congrArg (fun q => Option.bind q _) hl).trans ?_
  rfl
theorem wEntry_e (e : S_impl_Entry) : wEntry e = 3 + e.f0.length + (3 + dl wFn e.f2 + dl wPat e.f3) + (3 + dl wFn e.f5 + dl wPat e.f6) := rfl
theorem wFn_ins (f : S_impl_Fn) : dl wIns f.f3 ≤ wFn f := by
 have : wFn f = 3 + f.f0.length + dl wIns f.f3 := rfl
 omega
theorem l9Copy_ok (n : Nat) (hn : n ≤ 1099511627776) (fs : List S_impl_Fn) (ps : List S_impl_Pat) (h : dl wFn fs < n) (h3 : dl wPat ps < n) : p_spec_l9Copy n fs ps = some (fs, ps) := by
 have l1 := dl_len wFn fs
 have l2 := dl_len wPat ps
 unfold p_spec_l9Copy
 have hl := loop_for (body := p_spec_l9Copy_b1 n fs) (fun i => ((i : Int), fs.take i, ([] : List S_impl_Pat))) (len := fs.length) (r := ((fs.length : Int), false, fs, [])) (fun i hi => by
  have ha : fs[i]? = some fs[i] := List.getElem?_eq_getElem hi
  generalize fs[i] = a at ha
  have hd := dl_mem wFn (List.mem_of_getElem? ha)
  have hi2 := wFn_ins a
  have hli := dl_len wIns a.f3
  have hap : app2 40 ([] : List S_impl_Ins) a.f3 = some a.f3 := app2_of (by simp only [List.length_nil]; omega) (by simp only [List.length_nil, maxLen]; omega)
  simp only [p_spec_l9Copy_b1, lt_int ha, cond_true, ix_nat, ha, Option.bind_some, hap, S_impl_Fn_eta, take_app 56 ha (by omega) (by omega), wrap_succ (show i < 4611686018427387904 by omega)]) (by simp only [p_spec_l9Copy_b1, not_lt_int, cond_false, List.take_length]) (n := n) (by omega)
 have hp := loop_for (body := p_spec_l9Copy_b2 n ps) (fun i => ((i : Int), fs, ps.take i)) (len := ps.length) (r := ((ps.length : Int), false, fs, ps)) (fun i hi => by
  have ha : ps[i]? = some ps[i] := List.getElem?_eq_getElem hi
  generalize ps[i] = a at ha
  have hd := dl_mem wPat (List.mem_of_getElem? ha)
  simp only [p_spec_l9Copy_b2, lt_int ha, cond_true, ix_nat, ha, Option.bind_some, l9CopyPat_oks n hn a.f0 a.f1 a.f2 a.f3 (by rw [S_impl_Pat_eta]; omega), S_impl_Pat_eta, take_app 56 ha (by omega) (by omega), wrap_succ (show i < 4611686018427387904 by omega)]) (by simp only [p_spec_l9Copy_b2, not_lt_int, cond_false, List.take_length]) (n := n) (by omega)
 refine (congrArg (fun q => Option.bind q _) hl).trans ?_
 simp only [Option.bind_some]
 refine (congrArg (fun q => Option.bind q _) hp).trans ?_
 rfl
theorem copyCode_ok (n : Nat) (hn : n ≤ 1099511627776) (fs : List S_impl_Fn) (ps : List S_impl_Pat) (h : dl wFn fs < n) (h3 : dl wPat ps < n) : p_impl_copyCode n fs ps = some (fs, ps) := by
 have l1 := dl_len wFn fs
 have l2 := dl_len wPat ps
 unfold p_impl_copyCode
 have hl := loop_for (body := p_impl_copyCode_b1 n fs) (fun i => ((i : Int), fs.take i, ([] : List S_impl_Pat))) (len := fs.length) (r := ((fs.length : Int), false, fs, [])) (fun i hi => by
  have ha : fs[i]? = some fs[i] := List.getElem?_eq_getElem hi
  generalize fs[i] = a at ha
  have hd := dl_mem wFn (List.mem_of_getElem? ha)
  have hi2 := wFn_ins a
  have hli := dl_len wIns a.f3
  have hap : p_slices_Clone_d80c n a.f3 = some a.f3 := by
   unfold p_slices_Clone_d80c
   rw [decide_eq_true (by omega)]; rfl
  simp only [p_impl_copyCode_b1, lt_int ha, cond_true, ix_nat, ha, Option.bind_some, hap, S_impl_Fn_eta, take_app 56 ha (by omega) (by omega), wrap_succ (show i < 4611686018427387904 by omega)]) (by simp only [p_impl_copyCode_b1, not_lt_int, cond_false, List.take_length]) (n := n) (by omega)
 have hp := loop_for (body := p_impl_copyCode_b2 n ps) (fun i => ((i : Int), fs, ps.take i)) (len := ps.length) (r := ((ps.length : Int), false, fs, ps)) (fun i hi => by
  have ha : ps[i]? = some ps[i] := List.getElem?_eq_getElem hi
  generalize ps[i] = a at ha
  have hd := dl_mem wPat (List.mem_of_getElem? ha)
  simp only [p_impl_copyCode_b2, lt_int ha, cond_true, ix_nat, ha, Option.bind_some, copyPat_oks n hn a.f0 a.f1 a.f2 a.f3 (by rw [S_impl_Pat_eta]; omega), S_impl_Pat_eta, take_app 56 ha (by omega) (by omega), wrap_succ (show i < 4611686018427387904 by omega)]) (by simp only [p_impl_copyCode_b2, not_lt_int, cond_false, List.take_length]) (n := n) (by omega)
 refine (congrArg (fun q => Option.bind q _) hl).trans ?_
 simp only [Option.bind_some]
 refine (congrArg (fun q => Option.bind q _) hp).trans ?_
 rfl
def entP (s : List UInt8) (e : S_impl_Entry) : Bool := decide (e.f0 = s)
def entAt (l : List S_impl_Entry) (s : List UInt8) : Int := fidx (entP s) 0 l
theorem l12At_ok (n : Nat) (l : List S_impl_Entry) (s : List UInt8) (h : l.length < n) (hn : n < 4611686018427387904) : p_spec_l12At n l s = some (entAt l s) := by
 unfold p_spec_l12At
 have e := loop_find (body := p_spec_l12At_b1 n l s) l (entP s) (fun i => (i : Int)) (fun i => .inl (i : Int)) (.inr ((l.length : Int), false)) (fun i a ha => by
  have hi := lt_len ha
  simp only [p_spec_l12At_b1, lt_int ha, cond_true, ix_nat, ha, Option.bind_some, wrap_succ (show i < 4611686018427387904 by omega)]
  unfold entP
  cases decide (a.f0 = s) <;> rfl) (by simp only [p_spec_l12At_b1, not_lt_int, cond_false]) h
 have e : loopN (p_spec_l12At_b1 n l s) n (0 : Int) = _ := e
 rw [e]
 unfold entAt
 rcases fidx_get (entP s) l 0 with ⟨h1, _⟩ | ⟨k, a, h1, _⟩
 ·rw [h1]; rfl
 ·rw [h1, decide_eq_false (by omega)]
  simp only [cond_false, Option.bind_some, Int.toNat_natCast]
theorem entryAt_ok (n : Nat) (l : List S_impl_Entry) (s : List UInt8) (h : l.length < n) (hn : n < 4611686018427387904) : p_impl_entryAt n l s = some (entAt l s) := by
 unfold p_impl_entryAt p_slices_IndexFunc_e4d6
 have e := loop_find (body := p_slices_IndexFunc_e4d6_b1 n l) l (entP s) (fun i => ((i : Int), s)) (fun i => .inl ((i : Int), s)) (.inr ((l.length : Int), false, s)) (fun i a ha => by
  have hi := lt_len ha
  simp only [p_slices_IndexFunc_e4d6_b1, p_impl_entryAt_1, lt_int ha, cond_true, ix_nat, ha, Option.bind_some, wrap_succ (show i < 4611686018427387904 by omega)]
  unfold entP
  cases decide (a.f0 = s) <;> rfl) (by simp only [p_slices_IndexFunc_e4d6_b1, not_lt_int, cond_false]) h
 have e : loopN (p_slices_IndexFunc_e4d6_b1 n l) n ((0 : Int), s) = _ := e
 rw [e]
 unfold entAt
 rcases fidx_get (entP s) l 0 with ⟨h1, _⟩ | ⟨k, a, h1, _⟩
 ·rw [h1]; rfl
 ·rw [h1, decide_eq_false (by omega)]
  simp only [cond_false, Option.bind_some, Int.toNat_natCast]
end Go.Own.Q
