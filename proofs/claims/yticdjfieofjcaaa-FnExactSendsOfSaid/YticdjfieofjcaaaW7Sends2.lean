/- The law FnExactSendsOf, in plain Lean. No conditions. -/
import Derived.Test.YticdjfieofjcaaaW7Sends
set_option linter.unusedVariables false
set_option linter.unusedSimpArgs false
set_option linter.unnecessarySimpa false
namespace Go.Own.Q
open Go Go.Proofs

theorem loop_scanI {α σ τ ρ κ : Type} {body : σ → Option (σ ⊕ ρ)} (l : List α) (f : τ → α → τ ⊕ κ) (enc : τ → Nat → σ) (fin : τ → ρ) (out : κ → ρ) (I : Nat → τ → Prop) (hs : ∀ (i : Nat) a t, l[i]? = some a → I i t → (∃ t', f t a = .inl t' ∧ I (i + 1) t' ∧ body (enc t i) = some (.inl (enc t' (i + 1)))) ∨ (∃ q, f t a = .inr q ∧ body (enc t i) = some (.inr (out q))))
    (he : ∀ t, I l.length t → body (enc t l.length) = some (.inr (fin t))) {n : Nat} (hn : l.length < n) {t0 : τ} (h0 : I 0 t0) : loopN body n (enc t0 0) = some (match scan f l t0 with | .inl t => fin t | .inr q => out q) := by
  have key : ∀ (r : List α) (i : Nat) (t : τ) (n : Nat), l.drop i = r → I i t → r.length < n → i ≤ l.length → loopN body n (enc t i) = some (match scan f r t with | .inl t => fin t | .inr q => out q) := by
    intro r
    induction r with
    | nil =>
      intro i t n hr ht hn hi
      obtain ⟨m, rfl⟩ : ∃ m, n = m + 1 := ⟨n - 1, by simp at hn; omega⟩
      have : i = l.length := by
        have := congrArg List.length hr
        simp at this; omega
      subst this
      simp only [loopN, he t ht, scan]
    | cons a r ih =>
      intro i t n hr ht hn hi
      obtain ⟨m, rfl⟩ : ∃ m, n = m + 1 := ⟨n - 1, by simp at hn; omega⟩
      have hil : i < l.length := by
        have := congrArg List.length hr
        simp at this; omega
      have ha : l[i]? = some a := by
        have := congrArg (·[0]?) hr
        simpa using this
      have hr' : l.drop (i + 1) = r := by
        have := congrArg List.tail hr
        simpa using this
      rcases hs i a t ha ht with ⟨t', h1, h2, h3⟩ | ⟨q, h1, h3⟩
      · simp only [loopN, h3, scan, h1]
        exact ih (i + 1) t' m hr' h2 (by simp at hn; omega) (by omega)
      · simp only [loopN, h3, scan, h1]
  exact key l 0 t0 n rfl h0 hn (by omega)

def addr (a : S_impl_Term) : Bool := decide (a.f0 = 2) || decide (a.f0 = 3)
def sndL (k : Int) : List S_impl_Term → Option S_impl_Send
  | [a, b] => bif decide (k = 4) && addr a then some (.mk a.f0 a.f1 a.f2 a.f3 b.f0 b.f1 b.f2 b.f3) else none
  | _ => none
def snd (x : S_impl_Term) : Option S_impl_Send := sndL x.f0 x.f3
def sndF (t : List S_impl_Send) (x : S_impl_Term) : List S_impl_Send ⊕ Unit := match snd x with
  | some s => .inl (t ++ [s])
  | none => .inr ()
def sends (a0 : Int) (l : List S_impl_Term) : List S_impl_Send × Bool := bif decide (a0 = 5) then (match scan sndF l [] with | .inl t => (t, true) | .inr _ => ([], false)) else ([], false)

theorem isAddress_ok (n : Nat) (a : S_impl_Term) : p_impl_isAddress n a.f0 a.f1 a.f2 a.f3 = some (addr a) := by
  unfold p_impl_isAddress addr
  cases decide (a.f0 = 2) <;> rfl
theorem wTerm_kid {x a b : S_impl_Term} (h : x.f3 = [a, b]) : wTerm a + wTerm b + 6 ≤ wTerm x := by
  obtain ⟨a0, a1, a2, a3⟩ := x
  simp only [S_impl_Term.f3] at h
  subst h
  simp only [wTerm, wTerms]; omega
theorem impl_SendsOf_ok (n : Nat) (a0 a1 : Int) (a2 : List UInt8) (l : List S_impl_Term) (hw : dl wTerm l < n) (hn : n ≤ 1099511627776) : p_impl_SendsOf n a0 a1 a2 l = some (sends a0 l) := by
  unfold p_impl_SendsOf sends
  cases decide (a0 = 5) with
  | false => rfl
  | true =>
    have hll := dl_len wTerm l
    have h := loop_scanI (body := p_impl_SendsOf_b1 n l) l sndF (fun t i => (t, (i : Int))) (fun t => .inr (t, (l.length : Int), false)) (fun _ => .inl (([] : List S_impl_Send), false)) (fun i t => t.length = i) (fun i x t ha ht => by
      have hi := lt_len ha
      have hm := dl_mem wTerm (List.mem_of_getElem? ha)
      have hf : sndF t x = match snd x with | some s => .inl (t ++ [s]) | none => .inr () := rfl
      simp only [p_impl_SendsOf_b1, lt_int ha, cond_true, ix_nat, ha, Option.bind_some, wrap_succ (show i < 4611686018427387904 by omega)]
      generalize hl3 : x.f3 = l3
      have hs : snd x = sndL x.f0 l3 := by unfold snd; rw [hl3]
      rw [hf]
      match l3, hl3, hs with
      | [], hl3, hs => right; rw [hs]; refine ⟨(), rfl, ?_⟩; cases decide (x.f0 = 4) <;> rfl
      | [a], hl3, hs => right; rw [hs]; refine ⟨(), rfl, ?_⟩; cases decide (x.f0 = 4) <;> rfl
      | a :: b :: c :: r, hl3, hs =>
        right; rw [hs]; refine ⟨(), rfl, ?_⟩
        rw [decide_eq_false (show ¬ (((a :: b :: c :: r).length : Nat) : Int) = 2 by simp only [List.length_cons]; omega)]
        cases decide (x.f0 = 4) <;> rfl
      | [a, b], hl3, hs =>
        have hk := wTerm_kid hl3
        have hs2 : sndL x.f0 [a, b] = bif decide (x.f0 = 4) && addr a then some (.mk a.f0 a.f1 a.f2 a.f3 b.f0 b.f1 b.f2 b.f3) else none := rfl
        rw [hs2] at hs
        have i0 : ix [a, b] (0 : Int) = some a := rfl
        have i1 : ix [a, b] (1 : Int) = some b := rfl
        have hap : app2 112 t [S_impl_Send.mk a.f0 a.f1 a.f2 a.f3 b.f0 b.f1 b.f2 b.f3] = some (t ++ [S_impl_Send.mk a.f0 a.f1 a.f2 a.f3 b.f0 b.f1 b.f2 b.f3]) := app2_of (by simp only [List.length_singleton]; omega) (by simp only [List.length_singleton, maxLen]; omega)
        simp only [i0, i1, Option.bind_some, isAddress_ok, copyTerm_ok n (a := a) (by omega) hn, copyTerm_ok n (a := b) (by omega) hn, hap]
        cases c1 : decide (x.f0 = 4) with
        | false => right; rw [hs, c1]; exact ⟨(), rfl, rfl⟩
        | true =>
          cases c2 : addr a with
          | false => right; rw [hs, c1, c2]; exact ⟨(), rfl, rfl⟩
          | true => left; rw [hs, c1, c2]; exact ⟨_, rfl, by simp [ht], rfl⟩) (fun t ht => by simp only [p_impl_SendsOf_b1, not_lt_int, cond_false]) (n := n) (by omega) (t0 := []) rfl
    simp only [Bool.not_true, cond_false, cond_true]
    refine (congrArg (fun q => Option.bind q _) h).trans ?_
    cases scan sndF l [] <;> rfl
theorem spec_SendsOf_ok (n : Nat) (a0 a1 : Int) (a2 : List UInt8) (l : List S_impl_Term) (hw : dl wTerm l < n) (hn : n ≤ 1099511627776) : p_spec_SendsOf n a0 a1 a2 l = some (sends a0 l) := by
  unfold p_spec_SendsOf sends
  cases decide (a0 = 5) with
  | false => rfl
  | true =>
    have hll := dl_len wTerm l
    have h := loop_scanI (body := p_spec_SendsOf_b1 n l) l sndF (fun t i => (t, (i : Int))) (fun t => .inr (t, (l.length : Int), false)) (fun _ => .inl (([] : List S_impl_Send), false)) (fun i t => t.length = i) (fun i x t ha ht => by
      have hi := lt_len ha
      have hm := dl_mem wTerm (List.mem_of_getElem? ha)
      have hf : sndF t x = match snd x with | some s => .inl (t ++ [s]) | none => .inr () := rfl
      simp only [p_spec_SendsOf_b1, lt_int ha, cond_true, ix_nat, ha, Option.bind_some, wrap_succ (show i < 4611686018427387904 by omega)]
      generalize hl3 : x.f3 = l3
      have hs : snd x = sndL x.f0 l3 := by unfold snd; rw [hl3]
      rw [hf]
      match l3, hl3, hs with
      | [], hl3, hs => right; rw [hs]; refine ⟨(), rfl, ?_⟩; cases decide (x.f0 = 4) <;> rfl
      | [a], hl3, hs => right; rw [hs]; refine ⟨(), rfl, ?_⟩; cases decide (x.f0 = 4) <;> rfl
      | a :: b :: c :: r, hl3, hs =>
        right; rw [hs]; refine ⟨(), rfl, ?_⟩
        rw [decide_eq_false (show ¬ (((a :: b :: c :: r).length : Nat) : Int) = 2 by simp only [List.length_cons]; omega)]
        cases decide (x.f0 = 4) <;> rfl
      | [a, b], hl3, hs =>
        have hk := wTerm_kid hl3
        have hs2 : sndL x.f0 [a, b] = bif decide (x.f0 = 4) && addr a then some (.mk a.f0 a.f1 a.f2 a.f3 b.f0 b.f1 b.f2 b.f3) else none := rfl
        rw [hs2] at hs
        have i0 : ix [a, b] (0 : Int) = some a := rfl
        have i1 : ix [a, b] (1 : Int) = some b := rfl
        have hap : app2 112 t [S_impl_Send.mk a.f0 a.f1 a.f2 a.f3 b.f0 b.f1 b.f2 b.f3] = some (t ++ [S_impl_Send.mk a.f0 a.f1 a.f2 a.f3 b.f0 b.f1 b.f2 b.f3]) := app2_of (by simp only [List.length_singleton]; omega) (by simp only [List.length_singleton, maxLen]; omega)
        have hadr : addr a = (decide (a.f0 = 2) || decide (a.f0 = 3)) := rfl
        simp only [i0, i1, Option.bind_some, l2Copy_ok n (a := a) (by omega) hn, l2Copy_ok n (a := b) (by omega) hn, hap]
        cases c1 : decide (x.f0 = 4) with
        | false => right; rw [hs, c1]; exact ⟨(), rfl, rfl⟩
        | true =>
          cases c2 : decide (a.f0 = 2) with
          | true => left; rw [hs, c1, hadr, c2]; exact ⟨_, rfl, by simp [ht], rfl⟩
          | false =>
            cases c3 : decide (a.f0 = 3) with
            | true => left; rw [hs, c1, hadr, c2, c3]; exact ⟨_, rfl, by simp [ht], rfl⟩
            | false => right; rw [hs, c1, hadr, c2, c3]; exact ⟨(), rfl, rfl⟩) (fun t ht => by simp only [p_spec_SendsOf_b1, not_lt_int, cond_false]) (n := n) (by omega) (t0 := []) rfl
    simp only [Bool.not_true, cond_false, cond_true]
    refine (congrArg (fun q => Option.bind q _) h).trans ?_
    cases scan sndF l [] <;> rfl

/-! what is sent, marked -/
theorem S_impl_Send_eta (a : S_impl_Send) : S_impl_Send.mk a.f0 a.f1 a.f2 a.f3 a.f4 a.f5 a.f6 a.f7 = a := rfl
def wSend (a : S_impl_Send) : Nat := wTerm (.mk a.f0 a.f1 a.f2 a.f3) + wTerm (.mk a.f4 a.f5 a.f6 a.f7)
def mkSend (k : Nat) (a : S_impl_Send) : Nat × S_impl_Send :=
  ((mkTerms a.f7 ((mkTerms a.f3 (k + 3)).1 + 3)).1, .mk (k : Int) ((k + 1 : Nat) : Int) (mtxt (k + 2)) (mkTerms a.f3 (k + 3)).2 ((mkTerms a.f3 (k + 3)).1 : Int) (((mkTerms a.f3 (k + 3)).1 + 1 : Nat) : Int) (mtxt ((mkTerms a.f3 (k + 3)).1 + 2)) (mkTerms a.f7 ((mkTerms a.f3 (k + 3)).1 + 3)).2)
theorem mkSend_le (a : S_impl_Send) (k : Nat) : (mkSend k a).1 ≤ k + wSend a := by
  have := mkTerms_le a.f3 (k + 3)
  have := mkTerms_le a.f7 ((mkTerms a.f3 (k + 3)).1 + 3)
  show (mkTerms a.f7 ((mkTerms a.f3 (k + 3)).1 + 3)).1 ≤ k + ((3 + a.f2.length + wTerms a.f3) + (3 + a.f6.length + wTerms a.f7))
  omega
theorem mkSend_ge (a : S_impl_Send) (k : Nat) : k ≤ (mkSend k a).1 := by
  have := mkTerms_ge a.f3 (k + 3)
  have := mkTerms_ge a.f7 ((mkTerms a.f3 (k + 3)).1 + 3)
  show k ≤ (mkTerms a.f7 ((mkTerms a.f3 (k + 3)).1 + 3)).1
  omega
theorem markSendS_ok (n : Nat) (hn : n ≤ 1099511627776) (l : List S_impl_Send) (k : Nat) (h : 20 + dl wSend l < n) (hk : 0 < k) (hB : k + dl wSend l ≤ 1099511627776) : p_laws_markSendS n l (k : Int) = some (((mapAcc mkSend k l).1 : Int), (mapAcc mkSend k l).2) := by
  unfold p_laws_markSendS
  have h2 := dl_len wSend l
  have hl := loop_mark (body := p_laws_markSendS_b1 n) mkSend wSend (B := 1099511627776) (C := dl wSend l) (fun a k => mkSend_le a k) (len := l.length) (fun L s i a hL ha hs hb hc => by
    have hi := lt_len ha
    obtain ⟨a0, a1, a2, a3, a4, a5, a6, a7⟩ := a
    have e : wSend (.mk a0 a1 a2 a3 a4 a5 a6 a7) = (3 + a2.length + wTerms a3) + (3 + a6.length + wTerms a7) := rfl
    rw [e, wTerms_dl, wTerms_dl] at hb hc
    have q1 := mkTerms_le a3 (s + 3)
    have q2 := mkTerms_ge a3 (s + 3)
    rw [wTerms_dl] at q1
    have g : mkSend s (.mk a0 a1 a2 a3 a4 a5 a6 a7) = ((mkTerms a7 ((mkTerms a3 (s + 3)).1 + 3)).1, .mk (s : Int) ((s + 1 : Nat) : Int) (mtxt (s + 2)) (mkTerms a3 (s + 3)).2 ((mkTerms a3 (s + 3)).1 : Int) (((mkTerms a3 (s + 3)).1 + 1 : Nat) : Int) (mtxt ((mkTerms a3 (s + 3)).1 + 2)) (mkTerms a7 ((mkTerms a3 (s + 3)).1 + 3)).2) := rfl
    rw [g]
    have m1 := markTermS_ok n hn a3 (s + 3) (by omega) (by omega) (by omega)
    generalize mkTerms a3 (s + 3) = t1 at *
    obtain ⟨u, b3⟩ := t1
    simp only at q1 q2 ⊢
    have m2 := markTermS_ok n hn a7 (u + 3) (by omega) (by omega) (by omega)
    generalize mkTerms a7 (u + 3) = t2 at *
    simp only [p_laws_markSendS_b1, decide_eq_true (show (i : Int) < (L.length : Int) by omega), cond_true, ix_nat, ha, Option.bind_some, Int.toNat_natCast, List.set_set, List.getElem?_set_self hi,
      wrap_nat (show s < 4611686018427387904 by omega), wrap_nat (show s + 1 < 4611686018427387904 by omega), wrap_nat (show s + 1 + 1 < 4611686018427387904 by omega), wrap_succ (show i < 4611686018427387904 by omega), markText_ok n (s + 1 + 1) (by omega) (by omega) (by omega), m1,
      wrap_nat (show u < 4611686018427387904 by omega), wrap_nat (show u + 1 < 4611686018427387904 by omega), wrap_nat (show u + 1 + 1 < 4611686018427387904 by omega), markText_ok n (u + 1 + 1) (by omega) (by omega) (by omega), m2]) (fun L s hL => by rw [← hL]; simp only [p_laws_markSendS_b1, not_lt_int, cond_false]) (fun a k => mkSend_ge a k) l [] k n rfl hk hB (Nat.le_refl _) (by omega)
  refine (congrArg (fun q => Option.bind q _) hl).trans ?_
  simp only [Option.bind_some, List.nil_append]
theorem heldSendS_ok (n : Nat) (hn : n ≤ 1099511627776) (l : List S_impl_Send) (k : Nat) (h : 20 + dl wSend l < n) (hk : 0 < k) (hB : k + dl wSend l ≤ 1099511627776) : p_laws_heldSendS n (mapAcc mkSend k l).2 (k : Int) = some ((mapAcc mkSend k l).1 : Int) := by
  unfold p_laws_heldSendS
  have h2 := dl_len wSend l
  have hl := loop_held (body := p_laws_heldSendS_b1 n (mapAcc mkSend k l).2) mkSend wSend (B := 1099511627776) (C := dl wSend l) (fun a k => mkSend_le a k) (fun a k => mkSend_ge a k) (L := (mapAcc mkSend k l).2) (out := fun s => .inr ((s : Int), ((mapAcc mkSend k l).2.length : Int), false)) (fun s i a ha hs hb hc => by
    have hi := lt_len ha
    have hll := mapAcc_len mkSend l k
    obtain ⟨a0, a1, a2, a3, a4, a5, a6, a7⟩ := a
    have e : wSend (.mk a0 a1 a2 a3 a4 a5 a6 a7) = (3 + a2.length + wTerms a3) + (3 + a6.length + wTerms a7) := rfl
    rw [e, wTerms_dl, wTerms_dl] at hb hc
    have q1 := mkTerms_le a3 (s + 3)
    have q2 := mkTerms_ge a3 (s + 3)
    rw [wTerms_dl] at q1
    have g : mkSend s (.mk a0 a1 a2 a3 a4 a5 a6 a7) = ((mkTerms a7 ((mkTerms a3 (s + 3)).1 + 3)).1, .mk (s : Int) ((s + 1 : Nat) : Int) (mtxt (s + 2)) (mkTerms a3 (s + 3)).2 ((mkTerms a3 (s + 3)).1 : Int) (((mkTerms a3 (s + 3)).1 + 1 : Nat) : Int) (mtxt ((mkTerms a3 (s + 3)).1 + 2)) (mkTerms a7 ((mkTerms a3 (s + 3)).1 + 3)).2) := rfl
    rw [g] at ha ⊢
    have m1 := heldTermS_ok n hn a3 (s + 3) (by omega) (by omega) (by omega)
    have m2 := heldTermS_ok n hn a7 ((mkTerms a3 (s + 3)).1 + 3) (by omega) (by omega) (by omega)
    have q3 := mkTerms_ge a7 ((mkTerms a3 (s + 3)).1 + 3)
    generalize mkTerms a3 (s + 3) = t1 at *
    obtain ⟨u, b3⟩ := t1
    simp only at q1 q2 q3 m1 m2 ha ⊢
    generalize mkTerms a7 (u + 3) = t2 at *
    simp only [p_laws_heldSendS_b1, lt_int ha, cond_true, ix_nat, ha, Option.bind_some, decide_true, Bool.not_true, cond_false,
      wrap_nat (show s < 4611686018427387904 by omega), wrap_nat (show s + 1 < 4611686018427387904 by omega), wrap_nat (show s + 1 + 1 < 4611686018427387904 by omega), wrap_succ (show i < 4611686018427387904 by omega), markText_ok n (s + 1 + 1) (by omega) (by omega) (by omega), m1, decide_eq_false (show ¬ (u : Int) < 0 by omega),
      wrap_nat (show u < 4611686018427387904 by omega), wrap_nat (show u + 1 < 4611686018427387904 by omega), wrap_nat (show u + 1 + 1 < 4611686018427387904 by omega), markText_ok n (u + 1 + 1) (by omega) (by omega) (by omega), m2, decide_eq_false (show ¬ (t2.1 : Int) < 0 by omega)]) (fun s => by simp only [p_laws_heldSendS_b1, not_lt_int, cond_false]) l [] k n rfl hk hB (Nat.le_refl _) (by omega)
  refine (congrArg (fun q => Option.bind q _) hl).trans ?_
  simp only [Option.bind_some]
theorem eqSendS_ok (n : Nat) (l : List S_impl_Send) (h : dl wSend l < n) (hn : n ≤ 4611686018427387904) : p_laws_eqSendS n l l = some true := by
  unfold p_laws_eqSendS
  have h2 := dl_len wSend l
  simp only [decide_true, Bool.not_true, cond_false]
  rw [loop_eq l (fun i a ha => by
    have hd := dl_mem wSend (List.mem_of_getElem? ha)
    have hi := lt_len ha
    have he : p_laws_eqSend n a.f0 a.f1 a.f2 a.f3 a.f4 a.f5 a.f6 a.f7 a.f0 a.f1 a.f2 a.f3 a.f4 a.f5 a.f6 a.f7 = some true := by
      unfold p_laws_eqSend
      have e : wSend a = wTerm (.mk a.f0 a.f1 a.f2 a.f3) + wTerm (.mk a.f4 a.f5 a.f6 a.f7) := rfl
      rw [eqTerm_ok n (by omega) hn, eqTerm_ok n (by omega) hn]
      rfl
    simp only [p_laws_eqSendS_b1, lt_int ha, cond_true, ix_nat, ha, Option.bind_some, he, Bool.not_true, cond_false, wrap_succ (show i < 4611686018427387904 by omega)]) (by simp only [p_laws_eqSendS_b1, not_lt_int, cond_false]) (by omega)]
  simp only [Option.bind_some]
theorem dl_app {α : Type} (w : α → Nat) (a : α) : ∀ l : List α, dl w (l ++ [a]) = dl w l + 1 + w a
  | [] => by simp only [List.nil_append, dl]; omega
  | b :: r => by simp only [List.cons_append, dl, dl_app w a r]; omega
theorem snd_w {x : S_impl_Term} {s : S_impl_Send} (h : snd x = some s) : wSend s ≤ wTerm x := by
  unfold snd at h
  generalize hl : x.f3 = l at h
  match l, hl, h with
  | [], hl, h => cases h
  | [a], hl, h => cases h
  | a :: b :: c :: r, hl, h => cases h
  | [a, b], hl, h =>
    have hk := wTerm_kid hl
    have e : sndL x.f0 [a, b] = bif decide (x.f0 = 4) && addr a then some (.mk a.f0 a.f1 a.f2 a.f3 b.f0 b.f1 b.f2 b.f3) else none := rfl
    rw [e] at h
    generalize (decide (x.f0 = 4) && addr a) = q at h
    cases q with
    | false => cases h
    | true =>
      cases h
      show wTerm (.mk a.f0 a.f1 a.f2 a.f3) + wTerm (.mk b.f0 b.f1 b.f2 b.f3) ≤ _
      rw [S_impl_Term_eta, S_impl_Term_eta]
      omega
theorem scan_w : ∀ (l : List S_impl_Term) (t t' : List S_impl_Send), scan sndF l t = .inl t' → dl wSend t' + 1 ≤ dl wSend t + dl wTerm l
  | [], t, t', h => by cases h; simp [dl]
  | x :: r, t, t', h => by
    have e : sndF t x = match snd x with | some s => .inl (t ++ [s]) | none => .inr () := rfl
    cases hs : snd x with
    | none => rw [hs] at e; simp only [scan, e] at h; cases h
    | some s =>
      rw [hs] at e
      simp only [scan, e] at h
      have h1 := scan_w r _ _ h
      have h2 := snd_w hs
      rw [dl_app] at h1
      simp only [dl]
      omega
theorem sends_w (a0 : Int) (l : List S_impl_Term) : dl wSend (sends a0 l).1 ≤ dl wTerm l + 1 := by
  unfold sends
  cases decide (a0 = 5) with
  | false => show dl wSend [] ≤ _; simp [dl]
  | true =>
    simp only [cond_true]
    cases h : scan sndF l [] with
    | inl t => have := scan_w l [] t h; simp only [dl] at this ⊢; omega
    | inr q => show dl wSend [] ≤ _; simp [dl]
theorem law (a : S_laws_Term) (ho : okTerm a) : ∃ n, p_laws_FnExactSendsOf n a.f0 a.f1 a.f2 a.f3 = some true := by
  refine ⟨dTerm a + 100, ?_⟩
  generalize hN : dTerm a + 100 = n
  unfold p_laws_FnExactSendsOf
  rw [szTerm_ok n (h := by rw [S_laws_Term_eta]; omega) (ho := by rw [S_laws_Term_eta]; exact ho) (h0 := by omega) (h1 := by omega), S_laws_Term_eta]
  by_cases hz : (zTerm a : Int) ≤ 1048576
  · have hd := dTerm_z a
    rw [if_pos hz]
    simp only [Option.bind_some]
    rw [decide_eq_false (by omega), cond_false]
    rw [toTerm_ok n (h := by rw [S_laws_Term_eta]; omega) (hz := by rw [S_laws_Term_eta]; omega)]
    simp only [S_laws_Term_eta, Option.bind_some]
    generalize hc : cTerm a = t
    have hw : wTerm t + 100 ≤ n := by rw [← hc, wTerm_c]; omega
    have hwl : dl wTerm t.f3 + 3 ≤ wTerm t := by
      obtain ⟨t0, t1, t2, t3⟩ := t
      simp only [S_impl_Term.f3, wTerm, wTerms_dl]; omega
    have hn : n ≤ 1099511627776 := by omega
    have hsw := sends_w t.f0 t.f3
    have m1 := markTermS_ok n hn t.f3 1 (by omega) (by omega) (by omega)
    have g1 := mkTerms_ge t.f3 1
    have m2 := markSendS_ok n hn (sends t.f0 t.f3).1 1 (by omega) (by omega) (by omega)
    have m3 := heldSendS_ok n hn (sends t.f0 t.f3).1 1 (by omega) (by omega) (by omega)
    have m4 := eqSendS_ok n (sends t.f0 t.f3).1 (by omega) (by omega)
    have m5 := eqTerm_ok n (a0 := t.f0) (a1 := t.f1) (a2 := t.f2) (a3 := t.f3) (by rw [S_impl_Term_eta]; omega) (by omega)
    have e1 : ((1 : Nat) : Int) = 1 := rfl
    rw [e1] at m1 m2 m3
    simp only [spec_SendsOf_ok n t.f0 t.f1 t.f2 t.f3 (by omega) hn, impl_SendsOf_ok n t.f0 t.f1 t.f2 t.f3 (by omega) hn, Option.bind_some, m4, m5, Bool.not_true, cond_false, beq_self_eq_true, p_laws_markTerm, m1, decide_eq_false (show ¬ ((mkTerms t.f3 1).1 : Int) < 0 by omega), m2, m3,
      decide_eq_false (show ¬ (((mapAcc mkSend 1 (sends t.f0 t.f3).1).1 : Nat) : Int) < 0 by omega), decide_true]
  · rw [if_neg hz]; rfl
end Go.Own.Q
