/- A calculus for runs on plain data (part 3): whoever runs code on data, with its owners checked, runs the program. No conditions. -/
import Derived.Test.YtgeomhdbckjkcaaOwn1
import Derived.Below
import Derived.ChangeArms
import Derived.ChangeOld
import Derived.DataReads
import Derived.LoopN
import Derived.OpenShut
import Derived.ProofKit
import Derived.ShutString
import Derived.SizedLaws
import Derived.WalkKit
import Derived.WideShapes
set_option linter.unusedVariables false
set_option linter.unusedSimpArgs false
set_option linter.unnecessarySimpa false
/- What is checked of a region. -/
namespace Go.Own
open Go.RowKit

def leRow : List K → List K → Bool
  | _, [] => true
  | [], q :: r => decide (q = .D) && leRow [] r
  | p :: ps, q :: r => p.lo q && leRow ps r
def leRows : List (List K) → List (List K) → Bool
  | _, [] => true
  | [], q :: r => leRow [] q && leRows [] r
  | p :: ps, q :: r => leRow p q && leRows ps r

theorem leRow_of : ∀ {ps qs : List K}, leRow ps qs = true → ∀ {j : Nat} {q : K}, qs[j]? = some q → (match ps[j]? with | some p => p | none => .D).lo q = true
  | _, [], _, j, q, h => by simp at h
  | [], q :: r, h, 0, q', h2 => by
    simp only [leRow, Bool.and_eq_true] at h
    simp only [List.getElem?_cons_zero, Option.some.injEq] at h2
    subst h2
    rw [of_decide_eq_true h.1]; rfl
  | [], q :: r, h, j + 1, q', h2 => by
    simp only [leRow, Bool.and_eq_true] at h
    simp only [List.getElem?_cons_succ] at h2
    have := leRow_of h.2 h2
    simpa using this
  | p :: ps, q :: r, h, 0, q', h2 => by
    simp only [leRow, Bool.and_eq_true] at h
    simp only [List.getElem?_cons_zero, Option.some.injEq] at h2
    subst h2
    exact h.1
  | p :: ps, q :: r, h, j + 1, q', h2 => by
    simp only [leRow, Bool.and_eq_true] at h
    simp only [List.getElem?_cons_succ] at h2 ⊢
    exact leRow_of h.2 h2

theorem leRows_of : ∀ {ps qs : List (List K)}, leRows ps qs = true → ∀ {k : Nat} {r : List K}, qs[k]? = some r → leRow (match ps[k]? with | some p => p | none => []) r = true
  | _, [], _, j, q, h => by simp at h
  | [], q :: r, h, 0, q', h2 => by
    simp only [leRows, Bool.and_eq_true] at h
    simp only [List.getElem?_cons_zero, Option.some.injEq] at h2
    subst h2; exact h.1
  | [], q :: r, h, j + 1, q', h2 => by
    simp only [leRows, Bool.and_eq_true] at h
    simp only [List.getElem?_cons_succ] at h2
    have := leRows_of h.2 h2
    simpa using this
  | p :: ps, q :: r, h, 0, q', h2 => by
    simp only [leRows, Bool.and_eq_true] at h
    simp only [List.getElem?_cons_zero, Option.some.injEq] at h2
    subst h2; exact h.1
  | p :: ps, q :: r, h, j + 1, q', h2 => by
    simp only [leRows, Bool.and_eq_true] at h
    simp only [List.getElem?_cons_succ] at h2 ⊢
    exact leRows_of h.2 h2

/-- b' tells no more than b. -/
def leB (b' b : B) : Bool := b'.sl.all (fun p => match look p.1 b.sl with | some κ => leRows κ p.2 | none => false) && b'.ob.all (fun p => match look p.1 b.ob with | some r => leRow r p.2 | none => false)

theorem leB_of {b' b : B} (h : leB b' b = true) : (∀ i, b'.has i = true → b.has i = true) ∧ (∀ o, b'.hasO o = true → b.hasO o = true) ∧ ∀ l, (b.kd l).lo (b'.kd l) = true := by
  simp only [leB, Bool.and_eq_true] at h
  refine ⟨fun i hi => ?_, fun o ho => ?_, fun l => ?_⟩
  · simp only [B.has] at hi ⊢
    cases hl : look i b'.sl with
    | none => rw [hl] at hi; cases hi
    | some κ =>
      have := List.all_eq_true.1 h.1 _ (look_mem hl)
      simp only at this
      split at this
      · rename_i hb; rw [hb]; rfl
      · cases this
  · simp only [B.hasO] at ho ⊢
    cases hl : look o b'.ob with
    | none => rw [hl] at ho; cases ho
    | some κ =>
      have := List.all_eq_true.1 h.2 _ (look_mem hl)
      simp only at this
      split at this
      · rename_i hb; rw [hb]; rfl
      · cases this
  · cases hg : b'.get l with
    | none =>
      have : b'.kd l = .D := by simp only [B.kd, hg]
      rw [this]; exact lo_D _
    | some q =>
      have hq : b'.kd l = q := by simp only [B.kd, hg]
      rw [hq]
      cases l with
      | s i k j =>
        simp only [B.get] at hg
        cases hl : look i b'.sl with
        | none => rw [hl] at hg; cases hg
        | some κ =>
          rw [hl] at hg
          simp only [kget] at hg
          have := List.all_eq_true.1 h.1 _ (look_mem hl)
          simp only at this
          cases hb : look i b.sl with
          | none => rw [hb] at this; cases this
          | some κ2 =>
            rw [hb] at this
            have this : leRows κ2 κ = true := this
            cases hr : κ[k]? with
            | none => rw [hr] at hg; cases hg
            | some r =>
              rw [hr] at hg
              have h2 := leRow_of (leRows_of this hr) hg
              have e : b.kd (.s i k j) = (match (match κ2[k]? with | some p => p | none => [])[j]? with | some p => p | none => .D) := by
                simp only [B.kd, B.get, hb, kget]
                cases κ2[k]? with
                | none => rfl
                | some r0 => simp only; cases r0[j]? <;> rfl
              rw [e]; exact h2
      | oc o j =>
        simp only [B.get] at hg
        cases hl : look o b'.ob with
        | none => rw [hl] at hg; cases hg
        | some r =>
          rw [hl] at hg
          have := List.all_eq_true.1 h.2 _ (look_mem hl)
          simp only at this
          cases hb : look o b.ob with
          | none => rw [hb] at this; cases this
          | some r2 =>
            rw [hb] at this
            have h2 := leRow_of this hg
            have e : b.kd (.oc o j) = (match r2[j]? with | some p => p | none => .D) := by
              simp only [B.kd, B.get, hb]
              cases r2[j]? <;> rfl
            rw [e]; exact h2
      | _ => cases hg

/-- b' may be told where b is. -/
def Cv (F : FA) (b b' : B) : Prop := ∀ x, Ag F b x → Ag F b' x ∧ ∀ g0 w0 a w, Sim g0 w0 (b.S F.n x) a w → Sim g0 w0 (b'.S F.n x) a w
theorem Cv.refl (F : FA) (b : B) : Cv F b b := fun _ h => ⟨h, fun _ _ _ _ h => h⟩
theorem Cv.trans {F : FA} {a b c : B} (h : Cv F a b) (k : Cv F b c) : Cv F a c := fun x hA => by
  obtain ⟨h1, h2⟩ := h x hA
  obtain ⟨k1, k2⟩ := k x h1
  exact ⟨k1, fun g0 w0 a w hs => k2 g0 w0 a w (h2 g0 w0 a w hs)⟩

theorem lo_ne_D {a b : K} (h : a.lo b = true) (hb : b ≠ .D) : a ≠ .D := fun e => by subst e; cases b <;> simp [K.lo] at h hb

theorem leB_cv {F : FA} {b' b : B} (h : leB b' b = true) : Cv F b (b'.nrm F) := fun x hA => by
  obtain ⟨h1, h2, h3⟩ := leB_of h
  have hA' : Ag F b' x := ⟨fun i hi => hA.sl i (h1 i hi), fun o ho => hA.ob o (h2 o ho)⟩
  refine ⟨hA'.nrm, fun g0 w0 a w hs => hs.relax (Low.le hA' ⟨rfl, fun i hi => S_sl (h1 i hi), fun o ho => S_ob (h2 o ho), fun l t _ _ => h3 l, fun i k xs _ _ => h3 _, fun i _ _ hf => lo_ne_D (h3 _) hf⟩)⟩

/-! ### a step -/
def firstC {α β : Type} (f : α → Option β) : List α → Option β
  | [] => none
  | a :: r => match f a with | some b => some b | none => firstC f r
theorem firstC_of {α β : Type} {f : α → Option β} : ∀ {l : List α} {b : β}, firstC f l = some b → ∃ a ∈ l, f a = some b
  | [], b, h => by cases h
  | a :: r, b, h => by
    unfold firstC at h
    split at h
    · rename_i b' hb; cases h; exact ⟨a, List.mem_cons_self, hb⟩
    · obtain ⟨a', h1, h2⟩ := firstC_of h; exact ⟨a', List.mem_cons_of_mem _ h1, h2⟩

def fzL (F : FA) (b : B) : Option Nat → List Loc
  | some d => bif mem d F.fz then (holds F b d).map fun m => .s d m.1 m.2 else []
  | none => []
def guardB (ds : List (Option Nat)) (b : B) : Option (Nat × Bool) → Bool
  | none => true
  | some (j, _) => match ds[j]? with
    | some (some t) => b.has t
    | _ => true
/-- The step, or nothing: what is told behind a guard. -/
def unlessB (F : FA) (b b1 : B) (d : Option Nat) : Bool := match d with
  | some d => Nat.blt d F.n && leB (b1.filt fun i => !(Nat.beq i d)) b && b1.sl.all (fun p => Nat.beq p.1 d || !(inSlot d (rootOf (F.shOf p.1))))
  | none => false

def callC (Sg : FuncId → List Sg) (F : FA) (b : B) (o : Oper) (c : Call) (v : Operand) : Option B := match shOp F v with
  | .one (.fn f caps) => firstC (fun sg => bif Nat.beq sg.np (c.args.toList.length + caps.length) && Nat.beq sg.no (osOf F c v).length then cCall F b sg c v o.dst (ndOf F o.dst) (osOf F c v) else none) (Sg f)
  | _ => none
def calleeV (o : Oper) : Option (Call × Operand) := match o.op with
  | .call c => (match c.callee with | .value v => some (c, v) | _ => none)
  | _ => none
def runC (τ : TypeId → Option TI) (Sg : FuncId → List Sg) (F : FA) (b : B) (o : Oper) : Option B := match calleeV o with
  | some (c, v) => callC Sg F b o c v
  | none => cOp τ F b o
def stepC (τ : TypeId → Option TI) (Sg : FuncId → List Sg) (F : FA) (ds : List (Option Nat)) (b : B) (o : Oper) : Option B := match runC τ Sg F b o with
  | some b1 => bif guardB ds b o.guard && (match o.guard with | none => true | some _ => unlessB F b (b1.frz F (fzL F b1 o.dst)) o.dst) then some ((b1.frz F (fzL F b1 o.dst)).nrm F) else none
  | none => none
def opsC (τ : TypeId → Option TI) (Sg : FuncId → List Sg) (F : FA) (ds : List (Option Nat)) : B → List Oper → Option B
  | b, [] => some b
  | b, o :: r => match stepC τ Sg F ds b o with | some b1 => opsC τ Sg F ds b1 r | none => none

theorem frz_cv {F : FA} (L : List Loc) (b : B) : Cv F b (b.frz F L) := fun x hA => by
  obtain ⟨h1, h2⟩ := frz_S (n := F.n) L hA
  exact ⟨h1, fun g0 w0 a w hs => h2 hs⟩

/-- Skipped. -/
theorem skip_S {F : FA} {b b1 : B} {x : D} {d : Option Nat} (hA : Ag F b x) (h : unlessB F b b1 d = true) : Ag F (b1.nrm F) (skipD x d) ∧ ∀ g0 w0 a w, Sim g0 w0 (b.S F.n x) a w → Sim g0 w0 ((b1.nrm F).S F.n (skipD x d)) (a.put d undef) w := by
  cases d with
  | none => cases h
  | some d =>
    simp only [unlessB, Bool.and_eq_true] at h
    obtain ⟨⟨h0, h1⟩, h2⟩ := h
    obtain ⟨q1, q2, q3⟩ := leB_of h1
    have hhas : ∀ i, i ≠ d → b1.has i = true → b.has i = true := fun i e hi => q1 i (by rw [filt_has, hi, beq_false e]; rfl)
    have hroot : ∀ i, i ≠ d → b1.has i = true → inSlot d (rootOf (F.shOf i)) = false := fun i e hi => by
      simp only [B.has] at hi
      cases hl : look i b1.sl with
      | none => rw [hl] at hi; cases hi
      | some κ =>
        have := List.all_eq_true.1 h2 _ (look_mem hl)
        simp only [beq_false e, Bool.false_or] at this
        simpa using this
    have hkd : ∀ i k j, i ≠ d → (b.kd (.s i k j)).lo (b1.kd (.s i k j)) = true := fun i k j e => by
      have := q3 (.s i k j)
      rwa [filt_kd_of (by rw [beq_false e]; rfl)] at this
    have hA1 : Ag F b1 (skipD x (some d)) := by
      refine ⟨fun i hi => ?_, fun o ho => hA.ob o (q2 o ho)⟩
      by_cases e : i = d
      · subst e; left; simp [skipD, D.put]
      · have := hA.sl i (hhas i e hi)
        simpa [skipD, D.put, e] using this
    refine ⟨hA1.nrm, fun g0 w0 a w hs => ?_⟩
    obtain ⟨g, hs⟩ := hs
    have h3 := hs.set (u := undef) (r := .tup []) (κ := fun _ _ => .D) (blt_of h0) ⟨#[], rfl, rfl, fun k x hx => by simp at hx⟩ (fun h => absurd rfl h)
    refine ⟨g, h3.relax (Low.le hA1 ⟨rfl, fun i hi => ?_, fun o ho => S_ob (n := F.n) (q2 o ho), fun l t hL ht => ?_, fun i k xs hi hx => ?_, fun i hi hr hf => ?_⟩)⟩
    · by_cases e : i = d
      · subst e; simp [St.put, skipD, D.put]
      · simp only [St.put, skipD, D.put, if_neg e]; exact S_sl (hhas i e hi)
    · cases l with
      | s i k j =>
        by_cases e : i = d
        · subst e
          exfalso
          simp [D.at, atL, skipD, D.put, V.leaf] at ht
        · have hf : ((b.S F.n x).put d (.tup []) (fun _ _ => .D)).fl (.s i k j) = b.kd (.s i k j) := by
            simp only [St.put, if_neg e]
            rw [if_neg]
            · rfl
            · rintro ⟨_, _, h5⟩
              rw [S_sl (hhas i e hL)] at h5
              rcases hA.sl i (hhas i e hL) with e2 | e2
              · rw [e2] at h5; cases h5
              · rw [fits_root e2, hroot i e hL] at h5; cases h5
          rw [hf]; exact hkd i k j e
      | oc o j => exact q3 (.oc o j)
      | _ => cases hL
    · by_cases e : i = d
      · subst e
        simp [skipD, D.put, V.comp] at hx
      · have hf : ((b.S F.n x).put d (.tup []) (fun _ _ => .D)).fl (.s i k 0) = b.kd (.s i k 0) := by
          simp only [St.put, if_neg e]
          rw [if_neg]
          · rfl
          · rintro ⟨_, _, h5⟩
            rw [S_sl (hhas i e hi)] at h5
            rcases hA.sl i (hhas i e hi) with e2 | e2
            · rw [e2] at h5; cases h5
            · rw [fits_root e2, hroot i e hi] at h5; cases h5
        rw [hf]; exact hkd i k 0 e
    · by_cases e : i = d
      · subst e
        exact absurd (show rootOf ((skipD x (some i)).sl i) = .none by simp [skipD, D.put, rootOf]) hr
      · have hf2 : ((b.S F.n x).put d (.tup []) (fun _ _ => .D)).fl (.s i 0 0) = b.kd (.s i 0 0) := by
          simp only [St.put, if_neg e]
          rw [if_neg]
          · rfl
          · rintro ⟨_, _, h5⟩
            rw [S_sl (hhas i e hi)] at h5
            rcases hA.sl i (hhas i e hi) with e2 | e2
            · rw [e2] at h5; cases h5
            · rw [fits_root e2, hroot i e hi] at h5; cases h5
        rw [hf2]; exact lo_ne_D (hkd i 0 0 e) hf
end Go.Own

/- What an operation looks at, and what it changes, of the data. -/
namespace Go.Own
open Go.RowKit

/-- A change of data: one slot, some objects. -/
structure Eff where
  d : Option Nat
  u : V
  ob : Nat → Option (Option (List T))
def Eff.on (E : Eff) (x : D) : D :=
  { sl := fun i => if E.d = some i then E.u else x.sl i
    ob := fun o => match E.ob o with | some c => c | none => x.ob o }
def Eff.put (d : Nat) (u : V) : Eff := ⟨some d, u, fun _ => none⟩
def Eff.skip (d : Option Nat) : Eff := ⟨d, .tup [], fun _ => none⟩
def Eff.new (d : Nat) (u : V) (cs : List T) : Eff := ⟨some d, u, fun o => if o = d then some (some cs) else none⟩
def Eff.call (d nd : Option Nat) (os : List Nat) (y : D) : Eff := ⟨d, (y.sl 0).to (outN os nd), fun o => match innN os nd o with | some oc => some (y.ob oc) | none => none⟩

theorem D.ext {x y : D} (h1 : ∀ i, x.sl i = y.sl i) (h2 : ∀ o, x.ob o = y.ob o) : x = y := by
  cases x; cases y
  simp only [D.mk.injEq]
  exact ⟨funext h1, funext h2⟩

theorem Eff.put_on (d : Nat) (u : V) (x : D) : (Eff.put d u).on x = x.put d u := D.ext (fun i => by
  simp only [Eff.on, Eff.put, D.put, Option.some.injEq]
  by_cases e : d = i
  · rw [if_pos e, if_pos e.symm]
  · rw [if_neg e, if_neg (fun h => e h.symm)]) (fun _ => rfl)
theorem Eff.skip_on (d : Option Nat) (x : D) : (Eff.skip d).on x = skipD x d := D.ext (fun i => by
  cases d with
  | none => simp [Eff.on, Eff.skip, skipD]
  | some d =>
    simp only [Eff.on, Eff.skip, skipD, D.put, Option.some.injEq]
    by_cases e : d = i
    · rw [if_pos e, if_pos e.symm]
    · rw [if_neg e, if_neg (fun h => e h.symm)]) (fun _ => by cases d <;> rfl)
theorem Eff.new_on (d : Nat) (u : V) (cs : List T) (x : D) : (Eff.new d u cs).on x = (x.put d u).setO d cs := D.ext (fun i => by
  simp only [Eff.on, Eff.new, D.put, D.setO, Option.some.injEq]
  by_cases e : d = i
  · rw [if_pos e, if_pos e.symm]
  · rw [if_neg e, if_neg (fun h => e h.symm)]) (fun o => by
  simp only [Eff.on, Eff.new, D.put, D.setO]
  by_cases e : o = d
  · rw [if_pos e, if_pos e]
  · rw [if_neg e, if_neg e])
theorem Eff.call_on (d nd : Option Nat) (os : List Nat) (y x : D) : (Eff.call d nd os y).on x = x.call d nd os y := D.ext (fun _ => rfl) (fun o => by
  simp only [Eff.on, Eff.call, D.call]
  cases innN os nd o <;> rfl)

/-- What an operand tells, and what it points to. -/
def Same (x y : D) (v : Operand) : Prop := ev y.sl v = ev x.sl v ∧ (match ev x.sl v with
  | .one (.ptr ob _) => y.ob ob = x.ob ob
  | .one (.pp l _ _ _) => y.at l = x.at l
  | .one (.al l _) => y.at l = x.at l
  | _ => True)

theorem Same.evD {x y : D} {v : Operand} (h : Same x y v) : evD y v = evD x v := by
  unfold Own.evD
  rw [h.1]
  have h2 := h.2
  unfold resV
  split
  · rename_i l p e
    rw [e] at h2
    have h2 : atL y.sl y.ob l = atL x.sl x.ob l := h2
    rw [h2]
  · rfl

section
variable {τ : TypeId → Option TI} {F : FA} {x y x1 : D} {o : Oper}

/-- It changes one slot. -/
def PutAt (f : D → Option D) (x y x1 : D) (d : Nat) : Prop := ∃ u, x1 = x.put d u ∧ f y = some (y.put d u)

theorem putD_at {d : Nat} {v : V} {f : D → Option D} (h : putD F x d v = some x1) (hy : f y = putD F y d v) : PutAt f x y x1 d := by
  obtain ⟨h1, rfl⟩ := putD_some h
  exact ⟨v, rfl, by rw [hy]; unfold putD; rw [h1]; rfl⟩

theorem move_at {d : Nat} {v : Operand} (hs : Same x y v) (h : dMove F x d v = some x1) : PutAt (fun y => dMove F y d v) x y x1 d := by
  unfold dMove at h
  obtain ⟨hc, h⟩ := cond_some h
  exact putD_at h (by simp only [dMove, hs.1, hc, cond_true])
theorem alias_at {d : Nat} {v : Operand} (hs : Same x y v) (h : dAlias F x d v = some x1) : PutAt (fun y => dAlias F y d v) x y x1 d := by
  unfold dAlias at h
  split at h <;> try cases h
  rename_i t
  split at h <;> try cases h
  rename_i e
  have h1 : y.sl t = x.sl t := hs.1
  exact putD_at h (by simp only [dAlias, h1, e])
theorem extract_at {d k : Nat} {v : Operand} (hs : Same x y v) (h : dExtract F x d k v = some x1) : PutAt (fun y => dExtract F y d k v) x y x1 d := by
  unfold dExtract at h
  split at h <;> try cases h
  rename_i t
  split at h <;> try cases h
  rename_i ws e
  split at h <;> try cases h
  rename_i w e2
  have h1 : y.sl t = x.sl t := hs.1
  exact putD_at h (by simp only [dExtract, h1, e, e2])
theorem pick_at {d : Nat} {c v z : Operand} (h1 : Same x y c) (h2 : Same x y v) (h3 : Same x y z) (h : dPick F x d c v z = some x1) : PutAt (fun y => dPick F y d c v z) x y x1 d := by
  unfold dPick at h
  split at h <;> try cases h
  all_goals
    rename_i e
    split at h <;> try cases h
    rename_i e2
    obtain ⟨hc, h⟩ := cond_some h
    exact putD_at h (by simp only [dPick, h1.1, h2.1, h3.1, e, e2, hc, cond_true])
theorem field_at {d : Nat} {s : TypeId} {v : Operand} {f : Nat} (hs : Same x y v) (h : dField τ F x d s v f = some x1) : PutAt (fun y => dField τ F y d s v f) x y x1 d := by
  unfold dField at h
  split at h <;> try cases h
  rename_i e
  split at h <;> try cases h
  rename_i e2
  split at h <;> try cases h
  rename_i e3
  exact putD_at h (by simp only [dField, hs.1, e, e2, e3])
theorem nil_at {d : Nat} {v : Operand} (hs : Same x y v) (h : dNil F x d v = some x1) : PutAt (fun y => dNil F y d v) x y x1 d := by
  unfold dNil at h
  split at h <;> try cases h
  all_goals
    rename_i e
    exact putD_at h (by simp only [dNil, hs.1, e])
theorem func_at {d : Nat} {f : FuncId} {caps : Array Operand} (hs : ∀ v ∈ caps.toList, Same x y v) (h : dFunc F x d f caps = some x1) : PutAt (fun y => dFunc F y d f caps) x y x1 d := by
  unfold dFunc at h
  split at h <;> try cases h
  rename_i e
  have : caps.toList.map (ev y.sl) = caps.toList.map (ev x.sl) := List.map_congr_left fun v hv => (hs v hv).1
  exact putD_at h (by simp only [dFunc, this, e])
theorem read_at {d : Nat} {op : Op} (hs : ∀ v ∈ op.operands, Same x y v) (h : dRead τ F x d op = some x1) : PutAt (fun y => dRead τ F y d op) x y x1 d := by
  unfold dRead at h
  split at h <;> try cases h
  rename_i e
  exact putD_at h (by simp only [dRead, readV_congr op (fun v hv => (hs v hv).evD), e])
theorem index_at {d : Nat} {t : TypeId} {v i : Operand} (h1 : Same x y v) (h2 : Same x y i) (h : dIndex τ F x d t v i = some x1) : PutAt (fun y => dIndex τ F y d t v i) x y x1 d := by
  unfold dIndex at h
  split at h <;> try cases h
  · rename_i e0 e1
    split at h <;> try cases h
    · rename_i l p e2
      split at h <;> try cases h
      rename_i es e3
      split at h <;> try cases h
      rename_i e4
      have h3 := h1.2
      rw [e2] at h3
      have h3 : y.at l = x.at l := h3
      exact putD_at h (by simp only [dIndex, h1.1, h2.1, e0, e1, e2, h3, e3, e4])
    · rename_i es e2
      split at h <;> try cases h
      rename_i e4
      exact putD_at h (by simp only [dIndex, h1.1, h2.1, e0, e1, e2, e4])
  · rename_i e0 e1
    split at h <;> try cases h
    rename_i e2 e3
    split at h <;> try cases h
    rename_i e4
    exact putD_at h (by simp only [dIndex, h1.1, h2.1, e0, e1, e2, e3]; rw [if_pos e4])
theorem load_at {d : Nat} {t : TypeId} {v : Operand} {al : Bool} (h1 : Same x y v) (h : dLoad τ F x d t v al = some x1) : PutAt (fun y => dLoad τ F y d t v al) x y x1 d := by
  unfold dLoad at h
  split at h <;> try cases h
  · rename_i e0 e1
    have h3 := h1.2
    rw [e1] at h3
    split at h <;> try cases h
    rename_i e2
    simp only at h3
    cases al with
    | true =>
      simp only [cond_true] at h
      obtain ⟨hc, h⟩ := cond_some h
      exact putD_at h (by simp only [dLoad, h1.1, e0, e1, h3, e2, cond_true, hc])
    | false =>
      simp only [cond_false] at h
      split at h <;> try cases h
      rename_i e3
      exact putD_at h (by simp only [dLoad, h1.1, e0, e1, h3, e2, cond_false, e3])
  · rename_i e0 e1
    split at h <;> try cases h
    rename_i e2
    exact putD_at h (by simp only [dLoad, h1.1, e0, e1, e2])
  · rename_i l p n j e0 e1
    have h3 := h1.2
    rw [e1] at h3
    have h3 : y.at l = x.at l := h3
    split at h <;> try cases h
    rename_i e2
    split at h <;> try cases h
    rename_i e3
    cases al with
    | true =>
      simp only [cond_true] at h
      obtain ⟨hc, h⟩ := cond_some h
      exact putD_at h (by simp only [dLoad, h1.1, e0, e1, h3, e2, e3, cond_true, hc])
    | false =>
      simp only [cond_false] at h
      split at h <;> try cases h
      rename_i e4
      exact putD_at h (by simp only [dLoad, h1.1, e0, e1, h3, e2, e3, cond_false, e4])
theorem append_at {d : Nat} {t u : TypeId} {v z : Operand} (h1 : Same x y v) (h2 : Same x y z) (h : dAppend τ F x d t u v z = some x1) : PutAt (fun y => dAppend τ F y d t u v z) x y x1 d := by
  unfold dAppend at h
  split at h <;> try cases h
  rename_i e0
  split at h <;> try cases h
  rename_i e1 e2 e3
  obtain ⟨hc, h⟩ := cond_some h
  exact putD_at h (by simp only [dAppend, h1.1, h2.1, e0, e1, e2, e3, hc, cond_true])
theorem lit_at {d : Nat} {t : TypeId} {n : Nat} {parts : Array (Nat × Operand)} (hs : ∀ v ∈ parts.toList.map (·.2), Same x y v) (h : dLit τ F x d t n parts = some x1) : PutAt (fun y => dLit τ F y d t n parts) x y x1 d := by
  unfold dLit at h
  split at h <;> try cases h
  rename_i e0
  split at h <;> try cases h
  rename_i e1 e2
  obtain ⟨hc, h⟩ := cond_some h
  have : (parts.toList.map (·.2)).map (ev y.sl) = (parts.toList.map (·.2)).map (ev x.sl) := List.map_congr_left fun v hv => (hs v hv).1
  exact putD_at h (by simp only [dLit, this, e0, e1, e2, hc, cond_true])
theorem make_at {d : Nat} {t : TypeId} {v z : Operand} (h1 : Same x y v) (h2 : Same x y z) (h : dMake τ F x d t v z = some x1) : PutAt (fun y => dMake τ F y d t v z) x y x1 d := by
  unfold dMake at h
  split at h <;> try cases h
  rename_i e0
  split at h <;> try cases h
  rename_i e1 e2 e3
  split at h <;> try cases h
  rename_i e4
  exact putD_at h (by simp only [dMake, h1.1, h2.1, e0, e1, e2, e3]; rw [if_pos e4])
theorem build_at {d : Nat} {t : TypeId} {parts : Array (Nat × Operand)} (hs : ∀ v ∈ parts.toList.map (·.2), Same x y v) (h : dBuild τ F x d t parts = some x1) : PutAt (fun y => dBuild τ F y d t parts) x y x1 d := by
  unfold dBuild at h
  split at h <;> try cases h
  rename_i e0
  split at h <;> try cases h
  rename_i e1
  split at h <;> try cases h
  rename_i e2
  have : parts.toList.map (fun p => (p.1, ev y.sl p.2)) = parts.toList.map (fun p => (p.1, ev x.sl p.2)) := List.map_congr_left fun p hp => by rw [(hs p.2 (List.mem_map.2 ⟨p, hp, rfl⟩)).1]
  exact putD_at h (by simp only [dBuild, this, e0, e1, e2])

/-- The objects that it makes. -/
def newO (o : Oper) : List Nat := match o.dst, o.op with
  | some d, .alloc _ => [d]
  | some d, .box _ _ => [d]
  | _, _ => []
def isStore (o : Oper) : Bool := match o.op with | .store _ _ _ => true | _ => false

theorem PutAt.eff {f : D → Option D} {d : Nat} (h : PutAt f x y x1 d) (hd : o.dst = some d) (hf : f y = dOp τ F y o) : ∃ E : Eff, E.d = o.dst ∧ (∀ z, (E.ob z).isSome = true → z ∈ newO o) ∧ x1 = E.on x ∧ dOp τ F y o = some (E.on y) := by
  obtain ⟨u, rfl, h2⟩ := h
  exact ⟨Eff.put d u, hd.symm, (fun z hz => by cases hz), (Eff.put_on d u x).symm, (by rw [← hf, h2, Eff.put_on])⟩

theorem dOp_eff (h : dOp τ F x o = some x1) (hst : isStore o = false) (hs : ∀ v ∈ o.op.operands, Same x y v) : ∃ E : Eff, E.d = o.dst ∧ (∀ z, (E.ob z).isSome = true → z ∈ newO o) ∧ x1 = E.on x ∧ dOp τ F y o = some (E.on y) := by
  have h0 := h
  unfold dOp at h
  cases hd : o.dst with
  | none =>
    rw [hd] at h
    simp only at h
    split at h <;> try cases h
    rename_i ho
    rw [isStore, ho] at hst
    cases hst
  | some d =>
    rw [hd] at h
    simp only at h
    rw [← hd]
    have hr : ∀ op, o.op = op → (∀ y, dOp τ F y o = dRead τ F y d op) → dRead τ F x d op = some x1 → ∃ E : Eff, E.d = o.dst ∧ (∀ z, (E.ob z).isSome = true → z ∈ newO o) ∧ x1 = E.on x ∧ dOp τ F y o = some (E.on y) := fun op e1 e2 e3 =>
      PutAt.eff (read_at (y := y) (by rw [← e1]; exact hs) e3) hd (e2 y).symm
    cases ho : o.op with
    | assign v => rw [ho] at h hs; exact (move_at (hs v (by simp [Op.operands])) h).eff hd (by simp only [dOp, hd, ho])
    | move v =>
      rw [ho] at h hs
      simp only at h
      cases hm : mem d F.al with
      | true => rw [hm] at h; exact (alias_at (hs v (by simp [Op.operands])) h).eff hd (by simp only [dOp, hd, ho, hm, cond_true])
      | false => rw [hm] at h; exact (move_at (hs v (by simp [Op.operands])) h).eff hd (by simp only [dOp, hd, ho, hm, cond_false])
    | extract v k => rw [ho] at h hs; exact (extract_at (hs v (by simp [Op.operands])) h).eff hd (by simp only [dOp, hd, ho])
    | pick c a b => rw [ho] at h hs; exact (pick_at (hs c (by simp [Op.operands])) (hs a (by simp [Op.operands])) (hs b (by simp [Op.operands])) h).eff hd (by simp only [dOp, hd, ho])
    | fieldAddr s v f => rw [ho] at h hs; exact (field_at (hs v (by simp [Op.operands])) h).eff hd (by simp only [dOp, hd, ho])
    | nilCheck v => rw [ho] at h hs; exact (nil_at (hs v (by simp [Op.operands])) h).eff hd (by simp only [dOp, hd, ho])
    | makeFunc fn first caps =>
      rw [ho] at h hs
      cases fn with
      | func f =>
        simp only at h
        obtain ⟨hf, h⟩ := cond_some h
        exact (func_at (fun v hv => hs v (by simp [Op.operands]; exact .inr (by simpa using hv))) h).eff hd (by simp only [dOp, hd, ho, hf, cond_true])
      | _ => simp only [dRead, readV] at h; cases h
    | indexAddr t v i => rw [ho] at h hs; exact (index_at (hs v (by simp [Op.operands])) (hs i (by simp [Op.operands])) h).eff hd (by simp only [dOp, hd, ho])
    | load t v => rw [ho] at h hs; exact (load_at (hs v (by simp [Op.operands])) h).eff hd (by simp only [dOp, hd, ho])
    | alloc t =>
      rw [ho] at h
      simp only at h
      unfold dAlloc at h
      split at h <;> try cases h
      rename_i i e
      obtain ⟨hc, h⟩ := cond_some h
      cases h
      refine ⟨Eff.new d (.one (.ptr d 0)) i.zero, hd.symm, fun z hz => ?_, (Eff.new_on _ _ _ x).symm, ?_⟩
      · simp only [newO, hd, ho, List.mem_singleton]
        simp only [Eff.new] at hz
        by_cases e : z = d
        · exact e
        · rw [if_neg e] at hz; cases hz
      · simp only [dOp, hd, ho, dAlloc, e, hc, cond_true, Eff.new_on]
    | box t v =>
      rw [ho] at h hs
      simp only at h
      unfold dBox at h
      split at h <;> try cases h
      rename_i t'
      split at h <;> try cases h
      rename_i xs e
      obtain ⟨hc, h⟩ := cond_some h
      cases h
      have h1 : y.sl t' = x.sl t' := (hs (.tmp t') (by simp [Op.operands])).1
      refine ⟨Eff.new d (.one (.ptr d 0)) xs, hd.symm, fun z hz => ?_, (Eff.new_on _ _ _ x).symm, ?_⟩
      · simp only [newO, hd, ho, List.mem_singleton]
        simp only [Eff.new] at hz
        by_cases e : z = d
        · exact e
        · rw [if_neg e] at hz; cases hz
      · simp only [dOp, hd, ho, dBox, h1, e, hc, cond_true, Eff.new_on]
    | buildSlice t n parts => rw [ho] at h hs; exact (lit_at (fun v hv => hs v (by simpa [Op.operands] using hv)) h).eff hd (by simp only [dOp, hd, ho])
    | makeSlice t v z => rw [ho] at h hs; exact (make_at (hs v (by simp [Op.operands])) (hs z (by simp [Op.operands])) h).eff hd (by simp only [dOp, hd, ho])
    | build t parts => rw [ho] at h hs; exact (build_at (fun v hv => hs v (by simpa [Op.operands] using hv)) h).eff hd (by simp only [dOp, hd, ho])
    | call c =>
      rw [ho] at h hs
      simp only at h
      split at h
      · rename_i v z t u e1 e2 e3
        have hm : ∀ w, w ∈ c.args.toList → Same x y w := fun w hw => hs w (by simp only [Op.operands, Call.operands]; simp; exact .inr (by simpa using hw))
        exact (append_at (hm v (by rw [e2]; simp)) (hm z (by rw [e2]; simp)) h).eff hd (by simp only [dOp, hd, ho, e1, e2, e3])
      · rename_i hne
        refine hr (.call c) ho (fun y => ?_) h
        simp only [dOp, hd, ho]
    | store t v z => rw [ho] at h; simp only [dRead, readV] at h; cases h
    | binOp a b c d' e => rw [ho] at h; exact hr _ ho (fun y => by simp only [dOp, hd, ho]) h
    | unOp a b c => rw [ho] at h; exact hr _ ho (fun y => by simp only [dOp, hd, ho]) h
    | convert a b c => rw [ho] at h; exact hr _ ho (fun y => by simp only [dOp, hd, ho]) h
    | index a b c => rw [ho] at h; exact hr _ ho (fun y => by simp only [dOp, hd, ho]) h
    | slice a b c d' e => rw [ho] at h; exact hr _ ho (fun y => by simp only [dOp, hd, ho]) h
    | _ => rw [ho] at h; simp only [dRead, readV] at h; cases h
end
end Go.Own

/- A region's steps on data; two of them that do not touch each other may come the other way round. -/
namespace Go.Own
open Go.RowKit

/-- A step, with the contract of what it calls. -/
def SD (P : Program) (τ : TypeId → Option TI) (Sgs : FuncId → List Sg) (F : FA) (ds : List (Option Nat)) (o : Oper) (x x1 : D) : Prop :=
  (guardD ds x o.guard = some false ∧ x1 = skipD x o.dst) ∨
  (guardD ds x o.guard = some true ∧ dOp τ F x o = some x1) ∨
  (guardD ds x o.guard = some true ∧ ∃ c v f caps ob ob' r nw, o.op = .call c ∧ c.callee = .value v ∧ ev x.sl v = .one (.fn f caps) ∧ c.args.toList.all (fun v => thereV (ev x.sl v)) = true ∧ ob.map some = (osOf F c v).map x.ob ∧
    (∀ sg ∈ Sgs f, sg.np = (inV x c caps (osOf F c v)).length → sg.no = ob.length → TC P f sg (inV x c caps (osOf F c v)) ob r none ob' nw) ∧
    callShapes F (x.call o.dst (ndOf F o.dst) (osOf F c v) (DR r none ob' nw)) o.dst (ndOf F o.dst) (osOf F c v) = true ∧ x1 = x.call o.dst (ndOf F o.dst) (osOf F c v) (DR r none ob' nw))

def gslot (ds : List (Option Nat)) : Option (Nat × Bool) → Option Nat
  | none => none
  | some (j, _) => match ds[j]? with
    | some (some t) => some t
    | _ => none
def wO (F : FA) (o : Oper) : List Nat := match calleeV o with
  | some (c, v) => names (osOf F c v) (ndOf F o.dst)
  | none => newO o
def rO (F : FA) (o : Oper) : List Nat := match calleeV o with
  | some (c, v) => osOf F c v
  | none => []

def fitV (F : FA) (x : D) : Operand → Prop
  | .tmp t => x.sl t = .tup [] ∨ fits (x.sl t) (F.shOf t) = true
  | _ => True
def FitO (F : FA) (x : D) (o : Oper) : Prop := ∀ v ∈ o.op.operands, fitV F x v

def clashL (d : Option Nat) (wo : List Nat) : Loc → Bool
  | .s i _ _ => decide (d = some i)
  | .oc o _ => mem o wo
  | _ => false
def clash (F : FA) (d : Option Nat) (wo : List Nat) (v : Operand) : Bool :=
  (match v with | .tmp t => decide (d = some t) | _ => false) ||
  (match shOp F v with
   | .one (.ptr ob _) => mem ob wo
   | .one (.pp l _ _ _) => clashL d wo l
   | .one (.al l _) => clashL d wo l
   | _ => false)
/-- The first may change what the other looks at. -/
def touches (F : FA) (ds : List (Option Nat)) (a b : Oper) : Bool :=
  b.op.operands.toList.any (clash F a.dst (wO F a)) || (match gslot ds b.guard with | some t => decide (a.dst = some t) | none => false) || (rO F b).any (fun z => mem z (wO F a))
def indep (F : FA) (ds : List (Option Nat)) (a b : Oper) : Bool :=
  !(isStore a) && !(isStore b) && (match a.dst with | some d => !(decide (b.dst = some d)) | none => true) && !(touches F ds a b) && !(touches F ds b a) && (wO F a).all (fun z => !(mem z (wO F b)))

theorem memT {z : Nat} : ∀ {l : List Nat}, z ∈ l → mem z l = true
  | y :: r, h => by
    simp only [mem, Bool.or_eq_true]
    cases h with
    | head => exact .inl (Nat.beq_refl _)
    | tail _ h => exact .inr (memT h)

section
variable {P : Program} {τ : TypeId → Option TI} {Sgs : FuncId → List Sg} {F : FA} {ds : List (Option Nat)} {x y x1 x2 : D} {o : Oper}

theorem at_on {E : Eff} {wo : List Nat} (hE : ∀ z, (E.ob z).isSome = true → z ∈ wo) {l : Loc} (h : clashL E.d wo l = false) : (E.on x).at l = x.at l := by
  cases l with
  | s i k j =>
    simp only [clashL, decide_eq_false_iff_not] at h
    simp only [D.at, atL, Eff.on, if_neg h]
  | oc ob j =>
    simp only [clashL] at h
    have : E.ob ob = none := by
      cases he : E.ob ob with
      | none => rfl
      | some c => rw [memT (hE ob (by rw [he]; rfl))] at h; cases h
    simp only [D.at, atL, Eff.on, this]
  | _ => rfl

theorem same_on {E : Eff} {wo : List Nat} (hE : ∀ z, (E.ob z).isSome = true → z ∈ wo) {v : Operand} (hf : fitV F x v) (h : clash F E.d wo v = false) : Same x (E.on x) v := by
  have hob : ∀ ob, mem ob wo = false → (E.on x).ob ob = x.ob ob := fun ob hm => by
    have : E.ob ob = none := by
      cases he : E.ob ob with
      | none => rfl
      | some c => rw [memT (hE ob (by rw [he]; rfl))] at hm; cases hm
    simp only [Eff.on, this]
  simp only [clash, Bool.or_eq_false_iff] at h
  cases v with
  | tmp t =>
    obtain ⟨h1, h2⟩ := h
    have h1 : E.d ≠ some t := by simpa using h1
    have e0 : (E.on x).sl t = x.sl t := by simp only [Eff.on, if_neg h1]
    refine ⟨e0, ?_⟩
    have h2 : (match F.shOf t with | .one (.ptr ob _) => mem ob wo | .one (.pp l _ _ _) => clashL E.d wo l | .one (.al l _) => clashL E.d wo l | _ => false) = false := h2
    have hf : x.sl t = .tup [] ∨ fits (x.sl t) (F.shOf t) = true := hf
    show match x.sl t with | .one (.ptr ob _) => _ | .one (.pp l _ _ _) => _ | .one (.al l _) => _ | _ => True
    rcases hf with e | hf
    · rw [e]; trivial
    · split
      · rename_i ob p e
        rw [e] at hf
        cases hs : F.shOf t with
        | tup ws => rw [hs] at hf; simp [Own.fits] at hf
        | one w =>
          rw [hs] at hf h2
          cases w <;> simp [Own.fits, fitsW] at hf
          obtain ⟨rfl, _⟩ := hf
          exact hob _ h2
      · rename_i l p i j e
        rw [e] at hf
        cases hs : F.shOf t with
        | tup ws => rw [hs] at hf; simp [Own.fits] at hf
        | one w =>
          rw [hs] at hf h2
          cases w <;> simp [Own.fits, fitsW] at hf
          obtain ⟨⟨rfl, _⟩, _⟩ := hf
          exact at_on hE h2
      · rename_i l p e
        rw [e] at hf
        cases hs : F.shOf t with
        | tup ws => rw [hs] at hf; simp [Own.fits] at hf
        | one w =>
          rw [hs] at hf h2
          cases w <;> simp [Own.fits, fitsW] at hf
          obtain ⟨rfl, _⟩ := hf
          exact at_on hE h2
      · trivial
  | const u =>
    refine ⟨rfl, ?_⟩
    obtain ⟨_, h2⟩ := h
    show match constV u with | .one (.ptr ob _) => _ | .one (.pp l _ _ _) => _ | .one (.al l _) => _ | _ => True
    have h2 : (match constV u with | .one (.ptr ob _) => mem ob wo | .one (.pp l _ _ _) => clashL E.d wo l | .one (.al l _) => clashL E.d wo l | _ => false) = false := h2
    split
    · rename_i e; rw [e] at h2; exact hob _ h2
    · rename_i e; rw [e] at h2; exact at_on hE h2
    · rename_i e; rw [e] at h2; exact at_on hE h2
    · trivial
  | func f => exact ⟨rfl, trivial⟩
  | global i => exact ⟨rfl, trivial⟩

theorem Same.refl (x : D) (v : Operand) : Same x x v := ⟨rfl, by split <;> trivial⟩
theorem Same.symm {v : Operand} (h : Same x y v) : Same y x v := by
  refine ⟨h.1.symm, ?_⟩
  rw [h.1]
  have h2 := h.2
  split <;> rename_i e <;> first | trivial | (rw [e] at h2; exact h2.symm)

theorem Same.fit {v : Operand} (h : Same x y v) (hf : fitV F x v) : fitV F y v := by
  cases v with
  | tmp t =>
    have e : y.sl t = x.sl t := h.1
    show y.sl t = .tup [] ∨ fits (y.sl t) (F.shOf t) = true
    rw [e]; exact hf
  | _ => trivial

/-- All that it looks at is the same. -/
structure SameO (F : FA) (ds : List (Option Nat)) (x y : D) (o : Oper) : Prop where
  vs : ∀ v ∈ o.op.operands, Same x y v
  g : ∀ t, gslot ds o.guard = some t → y.sl t = x.sl t
  os : ∀ z ∈ rO F o, y.ob z = x.ob z

theorem SameO.refl (x : D) (o : Oper) : SameO F ds x x o := ⟨fun v _ => .refl x v, fun _ _ => rfl, fun _ _ => rfl⟩
theorem SameO.symm (h : SameO F ds x y o) : SameO F ds y x o := ⟨fun v hv => (h.vs v hv).symm, fun t ht => (h.g t ht).symm, fun z hz => (h.os z hz).symm⟩
theorem SameO.fit (h : SameO F ds x y o) (hf : FitO F x o) : FitO F y o := fun v hv => (h.vs v hv).fit (hf v hv)

theorem SameO.guard (h : SameO F ds x y o) : guardD ds y o.guard = guardD ds x o.guard := by
  have hg := h.g
  cases hq : o.guard with
  | none => rfl
  | some p =>
    obtain ⟨j, w⟩ := p
    rw [hq] at hg
    simp only [gslot] at hg
    simp only [guardD]
    split
    · rename_i t e
      rw [e] at hg
      simp only at hg
      rw [hg t rfl]
    · rfl

theorem sameO_on {a : Oper} {E : Eff} (hd : E.d = a.dst) (hE : ∀ z, (E.ob z).isSome = true → z ∈ wO F a) (hf : FitO F x o) (h : touches F ds a o = false) : SameO F ds x (E.on x) o := by
  simp only [touches, Bool.or_eq_false_iff] at h
  obtain ⟨⟨h1, h2⟩, h3⟩ := h
  refine ⟨fun v hv => same_on hE (hf v hv) ?_, fun t ht => ?_, fun z hz => ?_⟩
  · have := List.any_eq_false.1 h1 v (by simpa using hv)
    rw [hd]; simpa using this
  · rw [ht] at h2
    simp only [decide_eq_false_iff_not] at h2
    simp only [Eff.on, hd, if_neg h2]
  · have := List.any_eq_false.1 h3 z hz
    have hn : E.ob z = none := by
      cases he : E.ob z with
      | none => rfl
      | some c => exact absurd (memT (hE z (by rw [he]; rfl))) this
    simp only [Eff.on, hn]

theorem calleeV_of {c : Call} {v : Operand} (ho : o.op = .call c) (hc : c.callee = .value v) : calleeV o = some (c, v) := by
  unfold calleeV; rw [ho]; simp only [hc]
theorem dOp_callee (h : dOp τ F x o = some x1) : calleeV o = none := by
  unfold calleeV
  split
  · rename_i c ho
    split
    · rename_i v hv
      exfalso
      unfold dOp at h
      cases hd : o.dst with
      | none => rw [hd, ho] at h; simp at h
      | some d =>
        rw [hd, ho] at h
        simp only [hv] at h
        simp only [dRead, readV, hv] at h
        cases h
    · rfl
  · rfl

theorem mem_names {os : List Nat} {nd : Option Nat} {z : Nat} {y : D} {d : Option Nat} (h : ((Eff.call d nd os y).ob z).isSome = true) : z ∈ names os nd := by
  simp only [Eff.call] at h
  cases hi : innN os nd z with
  | none => rw [hi] at h; cases h
  | some oc => exact innN_names.1 (by rw [hi]; rfl)

theorem callShapes_on {d nd : Option Nat} {os : List Nat} {r : D} : callShapes F (y.call d nd os r) d nd os = callShapes F (x.call d nd os r) d nd os := by
  simp only [callShapes]
  congr 1
  · cases d with
    | none => rfl
    | some d => simp [D.call]
  · rw [Bool.eq_iff_iff, List.all_eq_true, List.all_eq_true]
    have : ∀ z ∈ names os nd, (y.call d nd os r).ob z = (x.call d nd os r).ob z := fun z hz => by
      simp only [D.call]
      cases hi : innN os nd z with
      | none => have := innN_names.2 hz; rw [hi] at this; cases this
      | some oc => rfl
    exact ⟨fun h z hz => by rw [← this z hz]; exact h z hz, fun h z hz => by rw [this z hz]; exact h z hz⟩

theorem SD.eff (h : SD P τ Sgs F ds o x x1) (hst : isStore o = false) (hs : SameO F ds x y o) : ∃ E : Eff, E.d = o.dst ∧ (∀ z, (E.ob z).isSome = true → z ∈ wO F o) ∧ x1 = E.on x ∧ SD P τ Sgs F ds o y (E.on y) := by
  rcases h with ⟨hg, rfl⟩ | ⟨hg, h⟩ | ⟨hg, c, v, f, caps, ob, ob', r, nw, h1, h2, h3, h4, h5, h6, h7, rfl⟩
  · exact ⟨Eff.skip o.dst, rfl, (fun z hz => by cases hz), (Eff.skip_on _ x).symm, .inl ⟨by rw [hs.guard, hg], Eff.skip_on _ y⟩⟩
  · obtain ⟨E, e1, e2, e3, e4⟩ := dOp_eff h hst hs.vs
    exact ⟨E, e1, (fun z hz => by simp only [wO, dOp_callee h]; exact e2 z hz), e3, .inr (.inl ⟨by rw [hs.guard, hg], e4⟩)⟩
  · have hc := calleeV_of h1 h2
    have hv : ∀ w, (w = v ∨ w ∈ c.args.toList) → Same x y w := fun w hw => hs.vs w (by
      rw [h1]
      simp only [Op.operands, Call.operands, h2]
      simp
      rcases hw with rfl | hw
      · exact .inl rfl
      · exact .inr (by simpa using hw))
    have e1 : inV y c caps (osOf F c v) = inV x c caps (osOf F c v) := by
      simp only [inV]
      congr 1
      exact List.map_congr_left fun w hw => by rw [(hv w (.inr hw)).evD]
    have e2 : (osOf F c v).map y.ob = (osOf F c v).map x.ob := List.map_congr_left fun z hz => hs.os z (by simp only [rO, hc]; exact hz)
    refine ⟨Eff.call o.dst (ndOf F o.dst) (osOf F c v) (DR r none ob' nw), rfl, (fun z hz => by simp only [wO, hc]; exact mem_names hz), (Eff.call_on _ _ _ _ x).symm, .inr (.inr ⟨by rw [hs.guard, hg], c, v, f, caps, ob, ob', r, nw, h1, h2, by rw [(hv v (.inl rfl)).1, h3], ?_, by rw [e2, h5], ?_, ?_, Eff.call_on _ _ _ _ y⟩)⟩
    · rw [List.all_eq_true] at h4 ⊢
      exact fun w hw => by rw [(hv w (.inr hw)).1]; exact h4 w hw
    · rw [e1]; exact h6
    · rw [callShapes_on (x := x)]; exact h7

theorem Eff.comm {E E' : Eff} {z : D} (hd : ∀ d, E.d = some d → E'.d ≠ some d) (ho : ∀ o, (E.ob o).isSome = true → E'.ob o = none) : E.on (E'.on z) = E'.on (E.on z) := by
  refine D.ext (fun i => ?_) (fun o => ?_)
  · simp only [Eff.on]
    by_cases e : E.d = some i
    · rw [if_pos e, if_neg (hd i e), if_pos e]
    · rw [if_neg e, if_neg e]
  · simp only [Eff.on]
    cases h : E.ob o with
    | none => rfl
    | some c => rw [ho o (by rw [h]; rfl)]

/-- The other way round. -/
theorem SD.swap {a b : Oper} (h1 : SD P τ Sgs F ds a x x1) (h2 : SD P τ Sgs F ds b x1 x2) (ha : FitO F x a) (hb : FitO F x1 b) (hi : indep F ds a b = true) : FitO F x b ∧ ∃ y, SD P τ Sgs F ds b x y ∧ FitO F y a ∧ SD P τ Sgs F ds a y x2 := by
  simp only [indep, Bool.and_eq_true, Bool.not_eq_true'] at hi
  obtain ⟨⟨⟨⟨⟨sa, sb⟩, hd⟩, hab⟩, hba⟩, hw⟩ := hi
  obtain ⟨A, a1, a2, a3, _⟩ := h1.eff sa (SameO.refl x a)
  -- b's operands, ahead of a
  have hfb : FitO F x b := fun v hv => by
    have hc : clash F a.dst (wO F a) v = false := by
      simp only [touches, Bool.or_eq_false_iff] at hab
      have := List.any_eq_false.1 hab.1.1 v (by simpa using hv)
      simpa using this
    have := hb v hv
    cases v with
    | tmp t =>
      simp only [clash, Bool.or_eq_false_iff, decide_eq_false_iff_not] at hc
      have e : x1.sl t = x.sl t := by rw [a3]; simp only [Eff.on, a1, if_neg hc.1]
      have this : x1.sl t = .tup [] ∨ fits (x1.sl t) (F.shOf t) = true := this
      rw [e] at this; exact this
    | _ => trivial
  have hsb : SameO F ds x x1 b := by rw [a3]; exact sameO_on a1 a2 hfb hab
  obtain ⟨B, b1, b2, b3, b4⟩ := h2.eff sb hsb.symm
  have hsa : SameO F ds x (B.on x) a := sameO_on b1 b2 ha hba
  obtain ⟨A', c1, c2, c3, c4⟩ := h1.eff sa hsa
  refine ⟨hfb, B.on x, b4, hsa.fit ha, ?_⟩
  rw [b3, c3, ← Eff.comm (E := A') (E' := B)]
  · exact c4
  · intro d e1 e2
    rw [c1] at e1
    rw [b1] at e2
    rw [e1] at hd
    simp [e2] at hd
  · intro z hz
    cases hB : B.ob z with
    | none => rfl
    | some c =>
      have m1 := c2 z hz
      have m2 := b2 z (by rw [hB]; rfl)
      have := List.all_eq_true.1 hw z m1
      rw [memT m2] at this
      cases this

/-- A run in the order of such numbers. -/
def RunF (P : Program) (τ : TypeId → Option TI) (Sgs : FuncId → List Sg) (F : FA) (ds : List (Option Nat)) (ops : Array Oper) : List Nat → D → D → Prop
  | [], x, x' => x = x'
  | i :: r, x, x' => ∃ o x1, ops[i]? = some o ∧ FitO F x o ∧ SD P τ Sgs F ds o x x1 ∧ RunF P τ Sgs F ds ops r x1 x'

/-- What may come first is taken first. -/
theorem RunF.front {ops : Array Oper} {i : Nat} (ho : ops[i]? = some o) {L2 : List Nat} {x' : D} : ∀ {L1 : List Nat} {x : D}, RunF P τ Sgs F ds ops (L1 ++ i :: L2) x x' → (∀ j ∈ L1, ∀ a, ops[j]? = some a → indep F ds a o = true) →
    FitO F x o ∧ ∃ x1, SD P τ Sgs F ds o x x1 ∧ RunF P τ Sgs F ds ops (L1 ++ L2) x1 x'
  | [], x, h, _ => by
    obtain ⟨o', x1, h1, h2, h3, h4⟩ := h
    rw [ho] at h1; cases h1
    exact ⟨h2, x1, h3, h4⟩
  | j :: r, x, h, hi => by
    obtain ⟨a, x1, h1, h2, h3, h4⟩ := h
    obtain ⟨k1, x2, k2, k3⟩ := RunF.front ho h4 (fun j hj => hi j (List.mem_cons_of_mem _ hj))
    obtain ⟨q1, y, q2, q3, q4⟩ := h3.swap k2 h2 k1 (hi j List.mem_cons_self a h1)
    exact ⟨q1, y, q2, a, x2, h1, q3, q4, k3⟩
end
end Go.Own

/- What is checked of a region whose order is drawn. -/
namespace Go.Own
open Go.RowKit

abbrev Lvl := List (Nat × B)
def getL (m : Nat) : Lvl → Option B
  | [] => none
  | (m', b) :: r => bif Nat.beq m m' then some b else getL m r
/-- One more state. -/
def addL (F : FA) (m : Nat) (b : B) (mt : B → B → B) : Lvl → Option Lvl
  | [] => some [(m, b)]
  | (m', b0) :: r => bif Nat.beq m m' then (bif leB (mt b0 b) b0 && leB (mt b0 b) b then some ((m', (mt b0 b).nrm F) :: r) else none)
    else (match addL F m b mt r with | some r' => some ((m', b0) :: r') | none => none)
def readyC (m : Nat) (o : Oper) : Bool := o.after.toList.all fun e => !(Region.binds .any e) || m.testBit e.on

section
variable (τ : TypeId → Option TI) (Sgs : FuncId → List Sg) (F : FA) (ds : List (Option Nat)) (mt : B → B → B)
def expand1 (m : Nat) (b : B) : Nat → List Oper → Lvl → Option Lvl
  | _, [], acc => some acc
  | i, o :: r, acc => bif m.testBit i || !(readyC m o) then expand1 m b (i + 1) r acc
    else (match stepC τ Sgs F ds b o with
      | some b1 => (match addL F (m ||| 2 ^ i) b1 mt acc with | some acc' => expand1 m b (i + 1) r acc' | none => none)
      | none => none)
def expand (os : List Oper) : Lvl → Lvl → Option Lvl
  | [], acc => some acc
  | (m, b) :: r, acc => match expand1 τ Sgs F ds mt m b 0 os acc with | some acc' => expand os r acc' | none => none
def levels (os : List Oper) : Nat → Lvl → Option Lvl
  | 0, L => some L
  | n + 1, L => match expand τ Sgs F ds mt os L [] with | some L' => levels os n L' | none => none
/-- In the order of the text, all operands told. -/
def opsK : B → List Oper → Option B
  | b, [] => some b
  | b, o :: r => bif o.op.operands.toList.all (knows b) then (match stepC τ Sgs F ds b o with | some b1 => opsK b1 r | none => none) else none
end

def orderOk (F : FA) (ds : List (Option Nat)) (ops : Array Oper) : Bool :=
  (List.range ops.size).all (fun j => match ops[j]? with | some o => o.after.all (fun e => !Region.binds .any e || Nat.blt e.on j) | none => true) &&
  (List.range ops.size).all (fun j => (List.range j).all fun i => match ops[i]?, ops[j]? with
    | some a, some b => ((Region.before ops).getD j 0).testBit i || indep F ds a b
    | _, _ => true)

def anyC (τ : TypeId → Option TI) (Sgs : FuncId → List Sg) (F : FA) (mt : B → B → B) (b : B) (ops : Array Oper) : Option B :=
  bif orderOk F (ops.toList.map (·.dst)) ops && (opsK τ Sgs F (ops.toList.map (·.dst)) b ops.toList).isSome then
    (match levels τ Sgs F (ops.toList.map (·.dst)) mt ops.toList ops.size [(0, b)] with | some [(_, b1)] => some b1 | _ => none) else none
end Go.Own

/- What is checked of code; regions' runs are what their data tell. -/
namespace Go.Own
open Go.RowKit

/-! ### joins -/
def meetK (a b : K) : K := if a.lo b then b else if b.lo a then a else if a.lo .V && b.lo .V then .V else .D
def meetRow : List K → List K → List K
  | p :: ps, q :: qs => meetK p q :: meetRow ps qs
  | _, _ => []
def meetRows : List (List K) → List (List K) → List (List K)
  | p :: ps, q :: qs => meetRow p q :: meetRows ps qs
  | _, _ => []
def meetS (b2 : List (Nat × List (List K))) : List (Nat × List (List K)) → List (Nat × List (List K))
  | [] => []
  | p :: r => match look p.1 b2 with | some κ => (p.1, meetRows p.2 κ) :: meetS b2 r | none => meetS b2 r
def meetO (b2 : List (Nat × List K)) : List (Nat × List K) → List (Nat × List K)
  | [] => []
  | p :: r => match look p.1 b2 with | some κ => (p.1, meetRow p.2 κ) :: meetO b2 r | none => meetO b2 r
def meetB (b1 b2 : B) : B := { sl := meetS b2.sl b1.sl, ob := meetO b2.ob b1.ob }

def ekeq : Ek → Ek → Bool
  | .n, .n => true
  | .r, .r => true
  | .e i, .e j => Nat.beq i j
  | _, _ => false
theorem ekeq_of {a b : Ek} : ekeq a b = true ↔ a = b := by
  cases a <;> cases b <;> simp [ekeq]

abbrev Outs := List (Ek × B)
def getE (e : Ek) : Outs → Option B
  | [] => none
  | (e', b) :: r => bif ekeq e e' then some b else getE e r
def dropE (e : Ek) : Outs → Outs
  | [] => []
  | (e', b) :: r => bif ekeq e e' then dropE e r else (e', b) :: dropE e r

theorem getE_drop {e e' : Ek} (h : e' ≠ e) : ∀ {o : Outs}, getE e' (dropE e o) = getE e' o
  | [] => rfl
  | (e2, b) :: r => by
    simp only [dropE]
    cases h2 : ekeq e e2 with
    | true =>
      have := ekeq_of.1 h2
      subst this
      simp only [cond_true, getE]
      rw [getE_drop h]
      cases h3 : ekeq e' e with
      | true => exact absurd (ekeq_of.1 h3) h
      | false => rfl
    | false =>
      simp only [cond_false, getE]
      rw [getE_drop h]

theorem ekeq_refl (e : Ek) : ekeq e e = true := ekeq_of.2 rfl
theorem ekeq_ne {a b : Ek} (h : a ≠ b) : ekeq a b = false := by
  cases h2 : ekeq a b with
  | true => exact absurd (ekeq_of.1 h2) h
  | false => rfl

/-- One more way out. -/
def addE (F : FA) (e : Ek) (b : B) (o : Outs) : Option Outs := match getE e o with
  | none => some ((e, b) :: o)
  | some b0 => bif leB (meetB b0 b) b0 && leB (meetB b0 b) b then some ((e, (meetB b0 b).nrm F) :: dropE e o) else none
def mergeE (F : FA) : Outs → Outs → Option Outs
  | [], o => some o
  | (e, b) :: r, o => match addE F e b o with | some o' => mergeE F r o' | none => none

/-- o' tells of every way out of o. -/
def Sub (F : FA) (o o' : Outs) : Prop := ∀ e b, getE e o = some b → ∃ b', getE e o' = some b' ∧ Cv F b b'
theorem Sub.refl (F : FA) (o : Outs) : Sub F o o := fun _ b h => ⟨b, h, Cv.refl F b⟩
theorem Sub.trans {F : FA} {a b c : Outs} (h : Sub F a b) (k : Sub F b c) : Sub F a c := fun e x hx => by
  obtain ⟨y, h1, h2⟩ := h e x hx
  obtain ⟨z, k1, k2⟩ := k e y h1
  exact ⟨z, k1, h2.trans k2⟩

theorem addE_of {F : FA} {e : Ek} {b : B} {o o' : Outs} (h : addE F e b o = some o') : Sub F o o' ∧ ∃ b', getE e o' = some b' ∧ Cv F b b' := by
  unfold addE at h
  split at h
  · rename_i hg
    cases h
    refine ⟨fun e2 b2 h2 => ?_, b, by simp [getE, ekeq_refl], Cv.refl F b⟩
    have hne : e2 ≠ e := fun e3 => by subst e3; rw [hg] at h2; cases h2
    exact ⟨b2, by simp only [getE, ekeq_ne hne, cond_false]; exact h2, Cv.refl F b2⟩
  · rename_i b0 hg
    obtain ⟨hc, h⟩ := cond_some h
    simp only [Bool.and_eq_true] at hc
    cases h
    refine ⟨fun e2 b2 h2 => ?_, _, by simp [getE, ekeq_refl], leB_cv hc.2⟩
    by_cases hne : e2 = e
    · subst hne
      rw [hg] at h2; cases h2
      exact ⟨_, by simp [getE, ekeq_refl], leB_cv hc.1⟩
    · exact ⟨b2, by simp only [getE, ekeq_ne hne, cond_false]; rw [getE_drop hne]; exact h2, Cv.refl F b2⟩

theorem mergeE_of {F : FA} : ∀ {l o o' : Outs}, mergeE F l o = some o' → Sub F o o' ∧ Sub F l o'
  | [], o, o', h => by cases h; exact ⟨Sub.refl F o, fun e b h => by cases h⟩
  | (e, b) :: r, o, o', h => by
    unfold mergeE at h
    split at h <;> try cases h
    rename_i o1 h1
    obtain ⟨a1, b', a2, a3⟩ := addE_of h1
    obtain ⟨m1, m2⟩ := mergeE_of h
    refine ⟨a1.trans m1, fun e2 b2 h2 => ?_⟩
    simp only [getE] at h2
    cases h3 : ekeq e2 e with
    | true =>
      have := ekeq_of.1 h3
      subst this
      rw [h3] at h2
      cases h2
      obtain ⟨b'', q1, q2⟩ := m1 _ b' a2
      exact ⟨b'', q1, a3.trans q2⟩
    | false =>
      rw [h3] at h2
      exact m2 e2 b2 h2

/-! ### a loop's head -/
def nrmOk (F : FA) (b : B) : Bool := b.sl.all fun p => nrmP F b p.1
theorem nrmOk_of {F : FA} {b : B} (h : nrmOk F b = true) (n : Nat) (x : D) : (b.nrm F).S n x = b.S n x := by
  have hp : ∀ i, b.has i = true → nrmP F b i = true := fun i hi => by
    simp only [B.has] at hi
    cases hl : look i b.sl with
    | none => rw [hl] at hi; cases hi
    | some κ => exact List.all_eq_true.1 h _ (look_mem hl)
  have hhas : ∀ i, (b.nrm F).has i = b.has i := fun i => by
    rw [nrm_eq, filt_has]
    cases hi : b.has i with
    | false => simp
    | true => rw [hp i hi]; rfl
  have hkd : (b.nrm F).kd = b.kd := funext fun l => by
    cases l with
    | s i k j =>
      by_cases hi : b.has i = true
      · rw [nrm_eq]; exact filt_kd_of (hp i hi)
      · rw [kd_has (show (b.nrm F).hasL (.s i k j) = false by show (b.nrm F).has i = false; rw [hhas]; simpa using hi), kd_has (show b.hasL (.s i k j) = false by show b.has i = false; simpa using hi)]
    | _ => rfl
  simp only [B.S, hhas, hkd]
  rfl
theorem nrm_cv (F : FA) (b : B) : Cv F b (b.nrm F) := fun x hA => ⟨hA.nrm, fun g0 w0 a w hs => hs.relax ((Low.self F.n b x).le hA)⟩
theorem leB_cv' {F : FA} {b' b : B} (h : leB b' b = true) (hn : nrmOk F b' = true) : Cv F b b' := fun x hA => by
  obtain ⟨h1, h2, h3⟩ := leB_of h
  have hA' : Ag F b' x := ⟨fun i hi => hA.sl i (h1 i hi), fun o ho => hA.ob o (h2 o ho)⟩
  obtain ⟨_, q⟩ := leB_cv h x hA
  exact ⟨hA', fun g0 w0 a w hs => by rw [← nrmOk_of hn]; exact q g0 w0 a w hs⟩

def iterC (F : FA) (f : B → Option Outs) : Nat → B → Option Outs
  | 0, _ => none
  | n + 1, h => match f h with
    | none => none
    | some o => match getE .n o with
      | none => some (dropE .n o)
      | some b1 => bif leB h b1 && nrmOk F h then some (dropE .n o) else bif leB (meetB h b1) h then iterC F f n ((meetB h b1).nrm F) else none

theorem iterC_of {F : FA} {f : B → Option Outs} : ∀ {n : Nat} {h : B} {outs : Outs}, iterC F f n h = some outs → ∃ h' o, Cv F h h' ∧ f h' = some o ∧ outs = dropE .n o ∧ (∀ b1, getE .n o = some b1 → Cv F b1 h') ∧ ∀ k, iterC F f (k + 1) h' = some outs
  | 0, h, outs, hh => by cases hh
  | n + 1, h, outs, hh => by
    have hh0 := hh
    unfold iterC at hh
    cases hf : f h with
    | none => rw [hf] at hh; cases hh
    | some o =>
      rw [hf] at hh
      simp only at hh
      cases hg : getE .n o with
      | none =>
        rw [hg] at hh
        cases hh
        exact ⟨h, o, Cv.refl F h, hf, rfl, fun b1 e => (by rw [hg] at e; cases e), fun k => by unfold iterC; rw [hf]; simp only [hg]⟩
      | some b1 =>
        rw [hg] at hh
        simp only at hh
        cases hc : (leB h b1 && nrmOk F h) with
        | true =>
          rw [hc] at hh
          cases hh
          simp only [Bool.and_eq_true] at hc
          refine ⟨h, o, Cv.refl F h, hf, rfl, fun b2 e => (by rw [hg] at e; cases e; exact leB_cv' hc.1 hc.2), fun k => ?_⟩
          unfold iterC; rw [hf]; simp only [hg, hc.1, hc.2, Bool.and_self, cond_true]
        | false =>
          rw [hc] at hh
          simp only [cond_false] at hh
          obtain ⟨hl, hh⟩ := cond_some hh
          obtain ⟨h', o', q1, q2⟩ := iterC_of hh
          exact ⟨h', o', (leB_cv hl).trans q1, q2⟩

/-! ### code -/
def keepB (F : FA) (id : Nat) (b : B) : B := match look id F.keep with
  | some l => b.filt fun i => mem i l
  | none => b
theorem keep_cv (F : FA) (id : Nat) (b : B) : Cv F b ((keepB F id b).nrm F) := fun x hA => by
  unfold keepB
  split
  · rename_i l _
    have hA' := hA.filt (F := F) (fun i => mem i l)
    refine ⟨hA'.nrm, fun g0 w0 a w hs => hs.relax (Low.le hA' ⟨rfl, fun i hi => S_sl ?_, fun o ho => S_ob (n := F.n) ho, fun l' t hL _ => ?_, fun i k xs hi _ => ?_, fun i hi _ hf => ?_⟩)⟩
    · rw [filt_has, Bool.and_eq_true] at hi; exact hi.2
    · cases l' with
      | s i k j =>
        have hL : (b.filt fun i => mem i l).has i = true := hL
        rw [filt_has, Bool.and_eq_true] at hL
        rw [filt_kd_of hL.1]; exact lo_refl _
      | oc o j => exact lo_refl _
      | _ => cases hL
    · rw [filt_has, Bool.and_eq_true] at hi
      rw [filt_kd_of hi.1]; exact lo_refl _
    · rw [filt_has, Bool.and_eq_true] at hi
      rw [filt_kd_of hi.1] at hf; exact hf
  · exact nrm_cv F b x hA

def bodyC (τ : TypeId → Option TI) (Sg : FuncId → List Sg) (F : FA) : Code → B → Option Outs
  | .skip, b => some [(.n, b)]
  | .label _, b => some [(.n, b)]
  | .exit i, b => some [(.e i, b)]
  | .ret, b => some [(.r, b)]
  | .seq x y, b => match bodyC τ Sg F x b with
    | none => none
    | some o1 => match getE .n o1 with
      | none => some o1
      | some b1 => match bodyC τ Sg F y b1 with
        | none => none
        | some o2 => mergeE F (dropE .n o1) o2
  | .cond c x y, b => bif knows b c then (match bodyC τ Sg F x b, bodyC τ Sg F y b with
    | some o1, some o2 => mergeE F o1 o2
    | _, _ => none) else none
  | .block id c, b => match bodyC τ Sg F c b with
    | none => none
    | some o => match getE (.e id) o with
      | none => some o
      | some b1 => addE F .n b1 (dropE (.e id) o)
  | .loop c, b => iterC F (bodyC τ Sg F c) 4 b
  | .region id ops dr, b => match (bif dr then anyC τ Sg F meetB b ops else opsC τ Sg F (ops.toList.map (·.dst)) b ops.toList) with
    | some b1 => some [(.n, (keepB F id b1).nrm F)]
    | none => none
  | _, _ => none
end Go.Own

/- Code's runs are what their data tell. -/
namespace Go.Own
open Go.RowKit

theorem rv_bool {g : G} {w : World} {κ : Nat → Nat → K} {l : Nat → Nat → Loc} {v : Value} {b : Bool} (h : RV g w κ l v (.one (.c (.bool b)))) : v = .bool b := by
  have := LF.scal (g' := g) (w' := w) (κ' := .F) (l' := .none) h.2 rfl
  have this : Rd _ _ _ _ := this
  cases this; rfl

theorem wanted_guard {F : FA} {b : B} {x : D} {n : Nat} {g0 : G} {w0 : World} {ops : Array Oper} {o : Oper} {g : G} {w : World} {a : Act} {t : Bool} (hs : SimG g0 w0 (b.S n x) a g w) (hk : guardB (ops.toList.map (·.dst)) b o.guard = true) (h : guardD (ops.toList.map (·.dst)) x o.guard = some t) :
    Region.wanted o (yielded ops a.tmps) = t := by
  have _ := F
  unfold Region.wanted
  cases hg : o.guard with
  | none => rw [hg] at h; simp only [guardD, Option.some.injEq] at h; exact h
  | some p =>
    obtain ⟨j, want⟩ := p
    rw [hg] at h hk
    simp only [guardD, List.getElem?_map, Array.getElem?_toList] at h
    simp only [guardB, List.getElem?_map, Array.getElem?_toList] at hk
    simp only [yielded]
    cases ho : ops[j]? with
    | none => rw [ho] at h; simp only [Option.map_none, Option.some.injEq] at h; subst h; simp
    | some oj =>
      rw [ho] at h hk
      simp only [Option.map_some] at h hk
      simp only [Option.bind_some]
      cases hd : oj.dst with
      | none => rw [hd] at h; simp only [Option.some.injEq] at h; subst h; simp
      | some d =>
        rw [hd] at h hk
        simp only at h hk
        simp only [Option.bind_some]
        have hr := hs.slots d
        rw [S_sl hk] at hr
        split at h
        · rename_i b' hb
          rw [hb] at hr
          have hv := rv_bool hr
          simp only [Option.some.injEq] at h
          rw [Array.getD_eq_getD_getElem?] at hv
          cases ht : a.tmps[d]? with
          | none => rw [ht] at hv; simp [undef] at hv
          | some u =>
            rw [ht] at hv
            simp only [Option.getD_some] at hv
            subst hv
            simp only
            rw [← h]
            cases b' <;> cases want <;> rfl
        · rename_i hb
          rw [hb] at hr
          obtain ⟨vs, hv, hn, _⟩ := hr
          simp only [Option.some.injEq] at h
          subst h
          rw [Array.getD_eq_getD_getElem?] at hv
          cases ht : a.tmps[d]? with
          | none => simp
          | some u =>
            rw [ht] at hv
            simp only [Option.getD_some] at hv
            subst hv
            simp
        · cases h

def noDo (z : Nat) : List Oper → Bool
  | [] => true
  | o :: r => !(decide (o.dst = some z)) && noDo z r
def noD (z : Nat) : Code → Bool
  | .seq a b => noD z a && noD z b
  | .cond _ a b => noD z a && noD z b
  | .block _ c => noD z c
  | .loop c => noD z c
  | .region _ ops _ => noDo z ops.toList
  | _ => true

theorem put_other {a : Act} {d : Option Nat} {u : Value} {z : Nat} (h : d ≠ some z) : (a.put d u).tmps.getD z undef = a.tmps.getD z undef := put_getD_opt a d u z h

/-- What is checked of a function. -/
def fnC (τ : TypeId → Option TI) (An : FuncId → FA) (Sgs : FuncId → List Sg) (f : FuncId) (sg : Sg) (fn : Func) (c : Code) : Bool :=
  Nat.beq (An f).n fn.ntmps && Nat.ble fn.ntmps par && Nat.ble sg.np fn.ntmps && !(fn.name == "runtime.NumGoroutine") && sg.bi.sl.all (fun p => Nat.blt p.1 sg.np) && sg.bi.ob.all (fun p => Nat.ble par p.1 && Nat.blt p.1 (par + sg.no)) &&
  (match sg.io with | none => true | _ => false) && sg.bo.sl.all (fun p => Nat.beq p.1 0) && sg.bo.ob.all (fun p => Nat.beq p.1 0 || sg.bi.hasO p.1) &&
  (match bodyC τ Sgs (An f) c sg.bi with
   | none => false
   | some outs => (match getE .n outs with | none => true | some b => resAll (An f) b sg.bo (sigR (An f) fn.results.toList (An f).n0 none) 0 fn.results.toList && objsB (An f) b sg.bo (An f).n0) &&
      (match getE .r outs with | none => true | some b => resAll (An f) b sg.bo (sigR (An f) fn.results.toList (An f).n0 none) 0 fn.results.toList && objsB (An f) b sg.bo (An f).n0))

def Mot (P : Program) (τ : TypeId → Option TI) (Sgs : FuncId → List Sg) : Jd → Prop
  | .code F c x e x' => ∀ b outs, bodyC τ Sgs F c b = some outs → Ag F b x → ∃ (b' : B) (k : Nat), getE e outs = some b' ∧ Ag F b' x' ∧ ∀ g0 w0 (Q : Exit → Act → World → Prop) a w, Sim g0 w0 (b.S F.n x) a w →
      (∀ a' w', Sim g0 w0 (b'.S F.n x') a' w' → (∀ z, noD z c = true → a'.tmps.getD z undef = a.tmps.getD z undef) → Q e.exit a' w') → c.wp P Q a w ∧ ∀ c', c = .loop c' → Code.rounds P c' Q k a w
  | .ops F ds os x x' => ∀ (ops : Array Oper) i, ops.toList.drop i = os → ds = ops.toList.map (·.dst) → ∀ b b', opsC τ Sgs F ds b os = some b' → Ag F b x → Ag F b' x' ∧ (∀ g0 w0 (Q : Exit → Act → World → Prop) a w, Sim g0 w0 (b.S F.n x) a w →
      (∀ a' w', Sim g0 w0 (b'.S F.n x') a' w' → (∀ z, noDo z os = true → a'.tmps.getD z undef = a.tmps.getD z undef) → Q .normal a' w') → wpOps P ops Q (List.range' i os.length) a w) ∧ ∀ b2, opsK τ Sgs F ds b os = some b2 → RunF P τ Sgs F ds ops (List.range' i os.length) x x'
  | .fn f vs ob r io ob' nw => ∀ sg ∈ Sgs f, sg.np = vs.length → sg.no = ob.length → TC P f sg vs ob r io ob' nw

theorem wpOp_of {P : Program} {ops : Array Oper} {o : Oper} {i : Nat} {Q : Exit → Act → World → Prop} {K : Act → World → Prop} {a : Act} {w : World} (hi : ops[i]? = some o) (t : Bool) (hw : Region.wanted o (yielded ops a.tmps) = t) (h : if t then o.wp P a w K Q else K (a.put o.dst undef) w) : wpOp P ops Q i K a w := by
  unfold Go.wpOp
  simp only [hi]
  rw [hw]
  cases t with
  | true => exact .inl h
  | false => exact h

theorem stepC_of {τ : TypeId → Option TI} {Sgs : FuncId → List Sg} {F : FA} {ds : List (Option Nat)} {b b' : B} {o : Oper} (h : stepC τ Sgs F ds b o = some b') : ∃ b1, runC τ Sgs F b o = some b1 ∧ b' = (b1.frz F (fzL F b1 o.dst)).nrm F ∧ guardB ds b o.guard = true ∧ (o.guard ≠ none → unlessB F b (b1.frz F (fzL F b1 o.dst)) o.dst = true) := by
  unfold stepC at h
  split at h <;> try cases h
  rename_i b1 h1
  obtain ⟨hc, h⟩ := cond_some h
  cases h
  simp only [Bool.and_eq_true] at hc
  refine ⟨b1, h1, rfl, hc.1, fun hg => ?_⟩
  have := hc.2
  split at this
  · rename_i e; exact absurd e hg
  · exact this
end Go.Own

/- A region whose order is drawn comes out alike in every order. -/
namespace Go.Own
open Go.RowKit

theorem SimG.drawn {g0 : G} {w0 : World} {st : St} {a : Act} {g : G} {w : World} (n : Nat) (h : SimG g0 w0 st a g w) : SimG g0 w0 st a g { w with drawn := n } := by
  have hE : Evo g w g { w with drawn := n } (fun _ => False) := ⟨Nat.le_refl _, fun b _ _ => ⟨rfl, rfl⟩⟩
  have hC : Calm g w g { w with drawn := n } (fun _ => False) st := { evo := hE, X := fun _ h => h.elim, V := .inl fun b hb => ⟨hb, rfl⟩, os := rfl, tape := rfl, output := rfl, ok := ⟨h.ok.own⟩ }
  refine ⟨h.framed.trans hC.framed, hC.ok, h.size, h.defers, fun i => RV.calm hC h.ok (fun _ => rfl) (fun _ _ _ h => h) (h.slots i), fun o cells hc => ?_, fun i hi hf => ?_, h.bp, h.nle⟩
  · obtain ⟨arr, ty, h1, h2, h3, h4⟩ := h.obs o cells hc
    refine ⟨arr, ty, h1, h2, h3, fun j x hx => ?_⟩
    obtain ⟨c, c1, c2, c3⟩ := h4 j x hx
    exact ⟨c, c1, c2, hC.lf h.ok (by simp) (fun _ h => h) c3⟩
  · obtain ⟨h1, h2⟩ := h.pls i hi hf
    refine ⟨h1, h2.congr ?_ rfl (fun v0 x0 p v' x' e1 e2 e3 => h.pl_evo hE (fun h => h) h1 (fun h => h) e1 e2 e3)⟩
    cases rootOf (st.sl i) <;> rfl
theorem Sim.drawn {g0 : G} {w0 : World} {s : St} {a : Act} {w : World} (n : Nat) (h : Sim g0 w0 s a w) : Sim g0 w0 s a { w with drawn := n } := by
  obtain ⟨g, h⟩ := h
  exact ⟨g, h.drawn n⟩
/-- All that has to be ahead of what is listed is listed. -/
def Closed (ops : Array Oper) (D : Nat → Prop) : Prop := ∀ j o, ops[j]? = some o → D j → ∀ e ∈ o.after, Region.binds .any e = true → D e.on

theorem before_acc (ops : Array Oper) (D : Nat → Prop) (hD : Closed ops D) : ∀ (l : List Oper) (acc : Array Nat), (∀ k o, l[k]? = some o → ops[acc.size + k]? = some o) →
    (∀ j i, D j → j < acc.size → (acc.getD j 0).testBit i = true → D i) →
    ∀ j i, D j → ((l.foldl (init := acc) fun acc o => acc.push (o.after.foldl (fun s e => if Region.binds .any e then s ||| 2 ^ e.on ||| acc.getD e.on 0 else s) 0)).getD j 0).testBit i = true → D i
  | [], acc, _, h2, j, i, hj, hb => by
    simp only [List.foldl_nil] at hb
    by_cases hlt : j < acc.size
    · exact h2 j i hj hlt hb
    · have : acc.getD j 0 = 0 := by simp [Array.getD, hlt]
      rw [this] at hb; simp at hb
  | o :: r, acc, h1, h2, j, i, hj, hb => by
    rw [List.foldl_cons] at hb
    refine before_acc ops D hD r _ (fun k o' hk => ?_) (fun j i hj hlt hb => ?_) j i hj hb
    · rw [Array.size_push, Nat.add_assoc, Nat.add_comm 1 k]
      exact h1 (k + 1) o' (by simpa using hk)
    · rw [Array.size_push] at hlt
      by_cases e : j = acc.size
      · have ho : ops[j]? = some o := by
          have := h1 0 o rfl
          rw [e]; exact this
        subst e
        have hb' : ((o.after.foldl (fun s e => if Region.binds .any e then s ||| 2 ^ e.on ||| acc.getD e.on 0 else s) 0)).testBit i = true := by
          simpa [Array.getD] using hb
        rw [← Array.foldl_toList] at hb'
        have key : ∀ (es : List Edge) (s : Nat), (∀ e ∈ es, e ∈ o.after) → (s.testBit i = true → D i) → (es.foldl (fun s e => if Region.binds .any e then s ||| 2 ^ e.on ||| acc.getD e.on 0 else s) s).testBit i = true → D i := by
          intro es
          induction es with
          | nil => intro s _ hs h; exact hs h
          | cons e es ih =>
            intro s hmem hs h
            rw [List.foldl_cons] at h
            refine ih _ (fun e he => hmem e (List.mem_cons_of_mem _ he)) (fun h => ?_) h
            split at h
            · rename_i hbd
              have hon := hD _ o ho hj e (hmem e List.mem_cons_self) hbd
              rw [Nat.testBit_or, Nat.testBit_or, Bool.or_eq_true, Bool.or_eq_true] at h
              rcases h with (h | h) | h
              · exact hs h
              · rw [Nat.testBit_two_pow] at h
                have : e.on = i := by simpa using h
                rw [← this]; exact hon
              · by_cases hlt : e.on < acc.size
                · exact h2 _ _ hon hlt h
                · have : acc.getD e.on 0 = 0 := by simp [Array.getD, hlt]
                  rw [this] at h; simp at h
            · exact hs h
        exact key _ 0 (fun e he => Array.mem_toList_iff.1 he) (by simp) hb'
      · refine h2 j i hj (by omega) ?_
        have hlt' : j < acc.size := by omega
        rw [Array.getD_eq_getD_getElem?, Array.getElem?_push_lt hlt'] at hb
        rw [Array.getD_eq_getD_getElem?, Array.getElem?_eq_getElem hlt']; exact hb

theorem before_closed {ops : Array Oper} {D : Nat → Prop} (hD : Closed ops D) {j i : Nat} (hj : D j) (h : ((Region.before ops).getD j 0).testBit i = true) : D i := by
  unfold Region.before at h
  rw [← Array.foldl_toList] at h
  exact before_acc ops D hD ops.toList #[] (fun k o hk => by simpa using hk) (fun j i _ hlt => by simp at hlt) j i hj h

theorem countP_lt {α : Type} (p q : α → Bool) : ∀ (l : List α) (x : α), x ∈ l → (∀ y, q y = true → p y = true) → p x = true → q x = false → l.countP q < l.countP p
  | [], x, h, _, _, _ => by cases h
  | y :: r, x, h, hpq, hp, hq => by
    have hle : r.countP q ≤ r.countP p := List.countP_mono_left (fun z _ hz => hpq z hz)
    cases h with
    | head => rw [List.countP_cons_of_pos hp, List.countP_cons_of_neg (by simp [hq])]; omega
    | tail _ h =>
      have := countP_lt p q r x h hpq hp hq
      rw [List.countP_cons, List.countP_cons]
      have : (if q y = true then 1 else 0) ≤ (if p y = true then 1 else 0) := by
        by_cases h : q y = true
        · rw [if_pos h, if_pos (hpq y h)]; exact Nat.le_refl _
        · rw [if_neg h]; exact Nat.zero_le _
      omega


/-! ### levels -/
def SubL (F : FA) (L L' : Lvl) : Prop := ∀ m b, getL m L = some b → ∃ b', getL m L' = some b' ∧ Cv F b b'
theorem SubL.refl (F : FA) (L : Lvl) : SubL F L L := fun _ b h => ⟨b, h, Cv.refl F b⟩
theorem SubL.trans {F : FA} {a b c : Lvl} (h : SubL F a b) (k : SubL F b c) : SubL F a c := fun e x hx => by
  obtain ⟨y, h1, h2⟩ := h e x hx
  obtain ⟨z, k1, k2⟩ := k e y h1
  exact ⟨z, k1, h2.trans k2⟩

theorem addL_of {F : FA} {m : Nat} {b : B} {mt : B → B → B} : ∀ {L L' : Lvl}, addL F m b mt L = some L' → SubL F L L' ∧ ∃ b', getL m L' = some b' ∧ Cv F b b'
  | [], L', h => by
    cases h
    exact ⟨fun _ _ h => (by cases h), b, by simp [getL], Cv.refl F b⟩
  | (m', b0) :: r, L', h => by
    unfold addL at h
    cases hm : Nat.beq m m' with
    | true =>
      rw [hm] at h
      simp only [cond_true] at h
      obtain ⟨hc, h⟩ := cond_some h
      simp only [Bool.and_eq_true] at hc
      cases h
      have e := Nat.eq_of_beq_eq_true hm
      subst e
      refine ⟨fun m2 b2 h2 => ?_, _, by simp [getL], leB_cv hc.2⟩
      simp only [getL] at h2 ⊢
      cases h3 : Nat.beq m2 m with
      | true => rw [h3] at h2; cases h2; exact ⟨_, rfl, leB_cv hc.1⟩
      | false => rw [h3] at h2; exact ⟨b2, h2, Cv.refl F b2⟩
    | false =>
      rw [hm] at h
      simp only [cond_false] at h
      split at h <;> try cases h
      rename_i r' hr
      obtain ⟨k1, b', k2, k3⟩ := addL_of hr
      refine ⟨fun m2 b2 h2 => ?_, b', by simp only [getL, hm, cond_false]; exact k2, k3⟩
      simp only [getL] at h2 ⊢
      cases h3 : Nat.beq m2 m' with
      | true => rw [h3] at h2; cases h2; exact ⟨_, rfl, Cv.refl F _⟩
      | false => rw [h3] at h2; exact k1 m2 b2 h2

section
variable {τ : TypeId → Option TI} {Sgs : FuncId → List Sg} {F : FA} {ds : List (Option Nat)} {mt : B → B → B}

theorem expand1_of {m : Nat} {b : B} : ∀ {r : List Oper} {i : Nat} {acc acc' : Lvl}, expand1 τ Sgs F ds mt m b i r acc = some acc' → SubL F acc acc' ∧ ∀ k o, r[k]? = some o → m.testBit (i + k) = false → readyC m o = true →
    ∃ b1 b2, stepC τ Sgs F ds b o = some b1 ∧ getL (m ||| 2 ^ (i + k)) acc' = some b2 ∧ Cv F b1 b2
  | [], i, acc, acc', h => by cases h; exact ⟨SubL.refl F acc, fun k o hk => by simp at hk⟩
  | o :: r, i, acc, acc', h => by
    unfold expand1 at h
    cases hc : (m.testBit i || !(readyC m o)) with
    | true =>
      rw [hc] at h
      obtain ⟨h1, h2⟩ := expand1_of (show expand1 τ Sgs F ds mt m b (i + 1) r acc = some acc' from h)
      refine ⟨h1, fun k o' hk hb hr => ?_⟩
      cases k with
      | zero =>
        simp only [List.getElem?_cons_zero, Option.some.injEq] at hk
        subst hk
        rw [Nat.add_zero] at hb
        rw [hb, hr] at hc
        cases hc
      | succ k =>
        rw [show i + (k + 1) = i + 1 + k by omega] at hb ⊢
        exact h2 k o' (by simpa using hk) hb hr
    | false =>
      rw [hc] at h
      simp only [cond_false] at h
      split at h <;> try cases h
      rename_i b1 hb1
      split at h <;> try cases h
      rename_i acc1 ha
      obtain ⟨a1, b2, a2, a3⟩ := addL_of ha
      obtain ⟨h1, h2⟩ := expand1_of h
      refine ⟨a1.trans h1, fun k o' hk hb hr => ?_⟩
      cases k with
      | zero =>
        simp only [List.getElem?_cons_zero, Option.some.injEq] at hk
        subst hk
        rw [Nat.add_zero]
        obtain ⟨b3, q1, q2⟩ := h1 _ b2 a2
        exact ⟨b1, b3, hb1, q1, a3.trans q2⟩
      | succ k =>
        rw [show i + (k + 1) = i + 1 + k by omega] at hb ⊢
        exact h2 k o' (by simpa using hk) hb hr

theorem expand_of {os : List Oper} : ∀ {L acc L' : Lvl}, expand τ Sgs F ds mt os L acc = some L' → SubL F acc L' ∧ ∀ m b, getL m L = some b → ∀ (k : Nat) o, os[k]? = some o → m.testBit k = false → readyC m o = true →
    ∃ b1 b2, stepC τ Sgs F ds b o = some b1 ∧ getL (m ||| 2 ^ k) L' = some b2 ∧ Cv F b1 b2
  | [], acc, L', h => by cases h; exact ⟨SubL.refl F acc, fun m b h => by cases h⟩
  | (m', b0) :: r, acc, L', h => by
    unfold expand at h
    split at h <;> try cases h
    rename_i acc1 ha
    obtain ⟨a1, a2⟩ := expand1_of ha
    obtain ⟨h1, h2⟩ := expand_of h
    refine ⟨a1.trans h1, fun m b hm k o hk hb hr => ?_⟩
    simp only [getL] at hm
    cases h3 : Nat.beq m m' with
    | true =>
      rw [h3] at hm
      cases hm
      have e := Nat.eq_of_beq_eq_true h3
      subst e
      obtain ⟨b1, b2, q1, q2, q3⟩ := a2 k o hk (by rw [Nat.zero_add]; exact hb) hr
      rw [Nat.zero_add] at q2
      obtain ⟨b3, q4, q5⟩ := h1 _ b2 q2
      exact ⟨b1, b3, q1, q4, q3.trans q5⟩
    | false =>
      rw [h3] at hm
      exact h2 m b hm k o hk hb hr
end

section
variable {P : Program} {τ : TypeId → Option TI} {Sgs : FuncId → List Sg} {F : FA} {x x1 x2 : D} {o : Oper} {b b1 : B}

/-- A step. -/
theorem SD.step (hT : Tables P τ) (hA : Ag F b x) {ops : Array Oper} {i : Nat} (hi : ops[i]? = some o) (h : SD P τ Sgs F (ops.toList.map (·.dst)) o x x1) (hc : stepC τ Sgs F (ops.toList.map (·.dst)) b o = some b1) :
    Ag F b1 x1 ∧ ∀ g0 w0 (Q : Exit → Act → World → Prop) (K : Act → World → Prop) a w, Sim g0 w0 (b.S F.n x) a w → (∀ v w', Sim g0 w0 (b1.S F.n x1) (a.put o.dst v) w' → K (a.put o.dst v) w') → wpOp P ops Q i K a w := by
  obtain ⟨b0, hr, e1, hgb, hun⟩ := stepC_of hc
  have fin : ∀ (t : Bool), guardD (ops.toList.map (·.dst)) x o.guard = some t → (∀ g0 w0 (Q : Exit → Act → World → Prop) (K : Act → World → Prop) a w, Sim g0 w0 (b.S F.n x) a w → (∀ v w', Sim g0 w0 (b1.S F.n x1) (a.put o.dst v) w' → K (a.put o.dst v) w') → if t then o.wp P a w K Q else K (a.put o.dst undef) w) →
      ∀ g0 w0 (Q : Exit → Act → World → Prop) (K : Act → World → Prop) a w, Sim g0 w0 (b.S F.n x) a w → (∀ v w', Sim g0 w0 (b1.S F.n x1) (a.put o.dst v) w' → K (a.put o.dst v) w') → wpOp P ops Q i K a w := fun t hg hone g0 w0 Q K a w hs hK => by
    have hw : Region.wanted o (yielded ops a.tmps) = t := by
      obtain ⟨g, hsg⟩ := hs
      exact wanted_guard (F := F) hsg hgb hg
    exact wpOp_of hi t hw (hone g0 w0 Q K a w hs hK)
  rcases h with ⟨hg, rfl⟩ | ⟨hg, h1⟩ | ⟨hg, c, v, f, caps, ob, ob', r, nw, ho, hcal, hx, hth, hob, hC, hsh, rfl⟩
  · have hgn : o.guard ≠ none := fun e => by rw [e] at hg; cases hg
    obtain ⟨hA1, hsk⟩ := skip_S hA (hun hgn)
    rw [← e1] at hA1 hsk
    exact ⟨hA1, fin false hg (fun g0 w0 Q K a w hs hK => hK undef w (hsk _ _ _ _ hs))⟩
  · have hr' : cOp τ F b o = some b0 := by
      unfold runC at hr
      rw [dOp_callee h1] at hr
      exact hr
    have hop := op_S hT hA h1 hr'
    obtain ⟨hA1, cs⟩ := ((frz_cv (F := F) (fzL F b0 o.dst) b0).trans (nrm_cv F _)) x1 hop.ag
    rw [← e1] at hA1 cs
    exact ⟨hA1, fin true hg (fun g0 w0 Q K a w hs hK => (hop.ok g0 w0).w Q K a w hs (fun v w' hs' => hK v w' (cs _ _ _ _ hs')))⟩
  · have hr' : callC Sgs F b o c v = some b0 := by
      unfold runC at hr
      rw [calleeV_of ho hcal] at hr
      exact hr
    unfold callC at hr'
    split at hr' <;> try cases hr'
    rename_i f' caps' hshp
    obtain ⟨sg, hsg, hcc⟩ := firstC_of hr'
    obtain ⟨hn, hcc⟩ := cond_some hcc
    simp only [Bool.and_eq_true] at hn
    have hkv : knows b v = true := by
      have hcc := hcc
      unfold cCall at hcc
      obtain ⟨hq, _⟩ := cond_some hcc
      simp only [Bool.and_eq_true] at hq
      exact hq.1.1.1.1.1.1.1.1.1.1
    have hfc : f' = f ∧ caps' = caps := by
      rcases sh_of hA hkv hx (by simp) with hf | ⟨_, hs⟩
      · rw [hshp] at hf
        simp only [Own.fits, fitsW, Bool.and_eq_true] at hf
        exact ⟨(Nat.eq_of_beq_eq_true hf.1).symm, (of_decide_eq_true hf.2).symm⟩
      · rw [hshp] at hs
        cases hs
        exact ⟨rfl, rfl⟩
    obtain ⟨rfl, rfl⟩ := hfc
    have hlen : (inV x c caps' (osOf F c v)).length = c.args.toList.length + caps'.length := by simp [inV]
    have hol : ob.length = (osOf F c v).length := by have := congrArg List.length hob; simpa using this
    have hnp : sg.np = (inV x c caps' (osOf F c v)).length := by rw [hlen]; exact Nat.eq_of_beq_eq_true hn.1
    have hC := hC sg hsg hnp (by rw [hol]; exact Nat.eq_of_beq_eq_true hn.2)
    obtain ⟨hA0, hop⟩ := call_S (P := P) hA ho hcal hx hC rfl hob hnp hth hsh hcc
    obtain ⟨hA1, cs⟩ := ((frz_cv (F := F) (fzL F b0 o.dst) b0).trans (nrm_cv F _)) _ hA0
    rw [← e1] at hA1 cs
    exact ⟨hA1, fin true hg (fun g0 w0 Q K a w hs hK => hop g0 w0 Q K a w hs (fun v w' hs' => hK v w' (cs _ _ _ _ hs')))⟩

theorem filter_set {ops : Array Oper} {listed : Array Bool} {i : Nat} (hsz : listed.size = ops.size) (hi : i < ops.size) (hun : listed.getD i true = false) : ∃ A C : List Nat, (List.range ops.size).filter (fun j => !listed.getD j true) = A ++ i :: C ∧
    (List.range ops.size).filter (fun j => !(listed.setIfInBounds i true).getD j true) = A ++ C ∧ ∀ j ∈ A, j < i ∧ listed.getD j true = false := by
  have hr : List.range ops.size = List.range' 0 i ++ i :: List.range' (i + 1) (ops.size - i - 1) := by
    rw [List.range_eq_range', show ops.size = i + (1 + (ops.size - i - 1)) by omega, ← List.range'_append_1, ← List.range'_append_1]
    simp
  have h1 : ∀ j, j ≠ i → (listed.setIfInBounds i true).getD j true = listed.getD j true := fun j hj => getD_set_ne true (Ne.symm hj)
  have hset : (listed.setIfInBounds i true).getD i true = true := by
    have : i < listed.size := by omega
    simp [Array.getD, this]
  refine ⟨(List.range' 0 i).filter (fun j => !listed.getD j true), (List.range' (i + 1) (ops.size - i - 1)).filter (fun j => !listed.getD j true), ?_, ?_, fun j hj => ?_⟩
  · rw [hr, List.filter_append, List.filter_cons_of_pos (by simp [hun])]
  · rw [hr, List.filter_append, List.filter_cons_of_neg (by simp [hset])]
    congr 1
    · exact List.filter_congr fun j hj => by
        have := List.mem_range'_1.1 hj
        rw [h1 j (by omega)]
    · exact List.filter_congr fun j hj => by
        have := List.mem_range'_1.1 hj
        rw [h1 j (by omega)]
  · rw [List.mem_filter] at hj
    have := List.mem_range'_1.1 hj.1
    exact ⟨by omega, by simpa using hj.2⟩

theorem any_ok (hT : Tables P τ) {ops : Array Oper} (hO : orderOk F (ops.toList.map (·.dst)) ops = true) {mt : B → B → B} {mf : Nat} {bf : B} {xn : D} {g0 : G} {w0 : World} {Q : Exit → Act → World → Prop} {a0 : Act}
    (hQ : ∀ a w, Ag F bf xn → Sim g0 w0 (bf.S F.n xn) a w → (∀ z, noDo z ops.toList = true → a.tmps.getD z undef = a0.tmps.getD z undef) → Q .normal a w) :
    ∀ (k : Nat) (listed : Array Bool) (m : Nat) (L : Lvl) (b : B) (x : D) (a : Act) (w : World), levels τ Sgs F (ops.toList.map (·.dst)) mt ops.toList k L = some [(mf, bf)] → getL m L = some b → listed.size = ops.size → (∀ i, i < ops.size → m.testBit i = listed.getD i false) →
      Closed ops (fun j => listed.getD j false = true) → (List.range ops.size).countP (fun i => !listed.getD i true) = k → Ag F b x → RunF P τ Sgs F (ops.toList.map (·.dst)) ops ((List.range ops.size).filter fun j => !listed.getD j true) x xn → Sim g0 w0 (b.S F.n x) a w →
      (∀ z, noDo z ops.toList = true → a.tmps.getD z undef = a0.tmps.getD z undef) → wpAny P .any ops Q k listed a w := by
  simp only [orderOk, Bool.and_eq_true, List.all_eq_true, List.mem_range] at hO
  obtain ⟨hedge, hpair⟩ := hO
  have hgd : ∀ (listed : Array Bool) j, listed.size = ops.size → j < ops.size → listed.getD j true = listed.getD j false := by
    intro listed j h1 h2
    have : j < listed.size := by omega
    simp [Array.getD, this]
  have hall : ∀ listed : Array Bool, listed.size = ops.size → Region.ready .any ops listed = [] → ∀ j, j < ops.size → listed.getD j false = true := by
    intro listed hsz hr j
    induction j using Nat.strongRecOn with
    | _ j ih =>
      intro hj
      rcases Bool.eq_false_or_eq_true (listed.getD j false) with h | h
      · exact h
      · exfalso
        have : j ∈ Region.ready .any ops listed := by
          rw [mem_ready]
          refine ⟨by rw [hgd listed j hsz hj]; exact h, ops[j], Array.getElem?_eq_getElem hj, fun e he hb => ?_⟩
          have h1 := hedge j hj
          rw [Array.getElem?_eq_getElem hj] at h1
          simp only [Array.all_eq_true_iff_forall_mem] at h1
          have h2 := h1 e he
          simp only [hb, Bool.not_true, Bool.false_or] at h2
          have h3 : e.on < j := blt_of h2
          exact ih e.on h3 (by omega)
        rw [hr] at this; cases this
  intro k
  induction k with
  | zero =>
    intro listed m L b x a w hL hm hsz hbit hcl hcount hA hrun hs hz
    have hlist : ∀ j, j < ops.size → listed.getD j true = true := fun j hj => by
      rw [List.countP_eq_zero] at hcount
      have := hcount j (List.mem_range.2 hj)
      simpa using this
    have hr : Region.ready .any ops listed = [] := by
      apply List.eq_nil_iff_forall_not_mem.2
      intro j hj
      obtain ⟨h1, o, ho, _⟩ := mem_ready.1 hj
      rw [hlist j (Array.getElem?_eq_some_iff.1 ho).1] at h1; cases h1
    refine ⟨hr, ?_⟩
    have hf : (List.range ops.size).filter (fun j => !listed.getD j true) = [] := List.filter_eq_nil_iff.2 fun j hj => by rw [hlist j (List.mem_range.1 hj)]; simp
    rw [hf] at hrun
    have hx : x = xn := hrun
    subst hx
    cases hL
    simp only [getL] at hm
    cases h3 : Nat.beq m mf with
    | true => rw [h3] at hm; cases hm; exact hQ a w hA hs hz
    | false => rw [h3] at hm; cases hm
  | succ k ih =>
    intro listed m L b x a w hL hm hsz hbit hcl hcount hA hrun hs hz
    unfold levels at hL
    split at hL <;> try cases hL
    rename_i L' hL'
    refine ⟨fun hr => ?_, fun i hi => ?_⟩
    · exfalso
      have : (List.range ops.size).countP (fun i => !listed.getD i true) = 0 := List.countP_eq_zero.2 fun j hj => by
        rw [hgd listed j hsz (List.mem_range.1 hj), hall listed hsz hr j (List.mem_range.1 hj)]; simp
      omega
    · obtain ⟨hun, o, ho, hafter⟩ := mem_ready.1 hi
      have hlt : i < ops.size := (Array.getElem?_eq_some_iff.1 ho).1
      have hun' : listed.getD i false = false := by rw [← hgd listed i hsz hlt]; exact hun
      obtain ⟨A, C, f1, f2, f3⟩ := filter_set hsz hlt hun
      have hcl' : Closed ops (fun j => (listed.setIfInBounds i true).getD j false = true) := by
        intro j oj hoj hj e he hb
        by_cases hij : i = j
        · subst hij
          rw [ho] at hoj; cases hoj
          exact getD_set_true (hafter e he hb)
        · rw [getD_set_ne false hij] at hj
          exact getD_set_true (hcl j oj hoj hj e he hb)
      have hset : (listed.setIfInBounds i true).getD i false = true := by
        have : i < listed.size := by omega
        simp [Array.getD, this]
      rw [f1] at hrun
      obtain ⟨hfo, x1, hsd, hrun1⟩ := hrun.front ho (fun j hj a' ha' => by
        obtain ⟨j1, j2⟩ := f3 j hj
        have h1 := hpair i hlt j j1
        rw [ha', ho] at h1
        simp only [Bool.or_eq_true] at h1
        refine h1.resolve_left (fun h2 => ?_)
        have := before_closed (D := fun j => (listed.setIfInBounds i true).getD j false = true) hcl' hset h2
        rw [getD_set_ne false (by omega)] at this
        rw [hgd listed j hsz (by omega)] at j2
        rw [j2] at this; cases this)
      have hrdy : readyC m o = true := by
        simp only [readyC, List.all_eq_true]
        intro e he
        cases hb : Region.binds .any e with
        | false => rfl
        | true =>
          have h1 := hafter e (Array.mem_toList_iff.1 he) hb
          have h2 := hedge i hlt
          rw [ho] at h2
          simp only [Array.all_eq_true_iff_forall_mem] at h2
          have h3 := h2 e (Array.mem_toList_iff.1 he)
          simp only [hb, Bool.not_true, Bool.false_or] at h3
          have h4 := blt_of h3
          simp only [Bool.not_true, Bool.false_or]
          rw [hbit e.on (by omega)]; exact h1
      obtain ⟨b1, b2, s1, s2, cv⟩ := (expand_of hL').2 m b hm i o (by rw [Array.getElem?_toList]; exact ho) (by rw [hbit i hlt]; exact hun') hrdy
      obtain ⟨hA1, hw1⟩ := hsd.step hT hA ho s1
      obtain ⟨hA2, cs⟩ := cv x1 hA1
      refine hw1 g0 w0 Q _ a w hs (fun v w' hs' => ih (listed.setIfInBounds i true) (m ||| 2 ^ i) L' b2 x1 _ w' hL s2 (by simpa using hsz) (fun j hj => ?_) hcl' ?_ hA2 (by rw [f2]; exact hrun1) (cs _ _ _ _ hs') (fun z hno => ?_))
      · rw [Nat.testBit_or, Nat.testBit_two_pow, hbit j hj]
        by_cases hij : i = j
        · subst hij; rw [hset]; simp
        · rw [getD_set_ne false hij]; simp [hij]
      · rw [List.countP_eq_length_filter] at hcount ⊢
        rw [f1] at hcount
        rw [f2]
        simp only [List.length_append, List.length_cons] at hcount ⊢
        omega
      · have hne : o.dst ≠ some z := by
          have key : ∀ l : List Oper, noDo z l = true → ∀ o ∈ l, o.dst ≠ some z := by
            intro l
            induction l with
            | nil => intro _ o h; cases h
            | cons p r ihl =>
              intro h o hm
              simp only [noDo, Bool.and_eq_true, Bool.not_eq_true', decide_eq_false_iff_not] at h
              cases hm with
              | head => exact h.1
              | tail _ hm => exact ihl h.2 o hm
          exact key ops.toList hno o (Array.mem_toList_iff.2 (Array.mem_of_getElem? ho))
        rw [put_other hne]; exact hz z hno

theorem levels_ag (hT : Tables P τ) {ops : Array Oper} (hO : orderOk F (ops.toList.map (·.dst)) ops = true) {mt : B → B → B} {mf : Nat} {bf : B} {xn : D} :
    ∀ (k j m : Nat) (L : Lvl) (b : B) (x : D), j + k = ops.size → levels τ Sgs F (ops.toList.map (·.dst)) mt ops.toList k L = some [(mf, bf)] → getL m L = some b → (∀ i, i < ops.size → m.testBit i = decide (i < j)) → Ag F b x →
      RunF P τ Sgs F (ops.toList.map (·.dst)) ops (List.range' j k) x xn → Ag F bf xn := by
  simp only [orderOk, Bool.and_eq_true, List.all_eq_true, List.mem_range] at hO
  obtain ⟨hedge, _⟩ := hO
  intro k
  induction k with
  | zero =>
    intro j m L b x hjk hL hm hbit hA hrun
    have hx : x = xn := hrun
    subst hx
    cases hL
    simp only [getL] at hm
    cases h3 : Nat.beq m mf with
    | true => rw [h3] at hm; cases hm; exact hA
    | false => rw [h3] at hm; cases hm
  | succ k ih =>
    intro j m L b x hjk hL hm hbit hA hrun
    unfold levels at hL
    split at hL <;> try cases hL
    rename_i L' hL'
    rw [List.range'_succ] at hrun
    obtain ⟨o, x1, ho, _, hsd, hrun1⟩ := hrun
    have hlt : j < ops.size := by omega
    have hrdy : readyC m o = true := by
      simp only [readyC, List.all_eq_true]
      intro e he
      have h2 := hedge j hlt
      rw [ho] at h2
      simp only [Array.all_eq_true_iff_forall_mem] at h2
      have h3 := h2 e (Array.mem_toList_iff.1 he)
      cases hb : Region.binds .any e with
      | false => rfl
      | true =>
        simp only [hb, Bool.not_true, Bool.false_or] at h3
        have h4 := blt_of h3
        simp only [Bool.not_true, Bool.false_or]
        rw [hbit e.on (by omega)]; exact decide_eq_true h4
    obtain ⟨b1, b2, s1, s2, cv⟩ := (expand_of hL').2 m b hm j o (by rw [Array.getElem?_toList]; exact ho) (by rw [hbit j hlt]; simp) hrdy
    obtain ⟨hA1, _⟩ := hsd.step hT hA ho s1
    refine ih (j + 1) (m ||| 2 ^ j) L' b2 x1 (by omega) hL s2 (fun i hi => ?_) (cv x1 hA1).1 hrun1
    rw [Nat.testBit_or, Nat.testBit_two_pow, hbit i hi]
    by_cases hij : i = j
    · subst hij; simp
    · have : (decide (i < j + 1)) = decide (i < j) := by
        by_cases h : i < j
        · rw [decide_eq_true h, decide_eq_true (by omega)]
        · rw [decide_eq_false h, decide_eq_false (by omega)]
      rw [this]
      simp; omega

theorem opsK_opsC {ds : List (Option Nat)} : ∀ {os : List Oper} {b b2 : B}, opsK τ Sgs F ds b os = some b2 → opsC τ Sgs F ds b os = some b2
  | [], b, b2, h => h
  | o :: r, b, b2, h => by
    unfold opsK at h
    obtain ⟨_, h⟩ := cond_some h
    unfold opsC
    split at h <;> try cases h
    rename_i b1 h1
    first
      | (rw [h1]; exact opsK_opsC h)
      | exact opsK_opsC h
theorem opsK_cons {ds : List (Option Nat)} {os : List Oper} {b b2 : B} (h : opsK τ Sgs F ds b (o :: os) = some b2) : o.op.operands.toList.all (knows b) = true ∧ ∃ b1, stepC τ Sgs F ds b o = some b1 ∧ opsK τ Sgs F ds b1 os = some b2 := by
  unfold opsK at h
  obtain ⟨h0, h⟩ := cond_some h
  split at h <;> try cases h
  rename_i b1 h1
  exact ⟨h0, b1, h1, h⟩
theorem FitO.of (hA : Ag F b x) (h : o.op.operands.toList.all (knows b) = true) : FitO F x o := fun v hv => by
  have := List.all_eq_true.1 h v (by simpa using hv)
  cases v with
  | tmp t => exact hA.sl t this
  | _ => trivial
end
end Go.Own

/- Code's runs are what their data tell: the theorem. -/
namespace Go.Own
open Go.RowKit

section
variable {P : Program} {τ : TypeId → Option TI} {An : FuncId → FA} {Sgs : FuncId → List Sg}

theorem getElem_of_drop {ops : Array Oper} {i : Nat} {o : Oper} {r : List Oper} (h : ops.toList.drop i = o :: r) : ops[i]? = some o ∧ ops.toList.drop (i + 1) = r := by
  have h1 : (ops.toList.drop i)[0]? = some o := by rw [h]; rfl
  rw [List.getElem?_drop, Nat.add_zero, Array.getElem?_toList] at h1
  refine ⟨h1, ?_⟩
  have : (ops.toList.drop i).drop 1 = r := by rw [h]; rfl
  rw [List.drop_drop] at this
  exact this

/-- Behind one operation, the rest. -/
theorem step_rest (hT : Tables P τ) {F : FA} {ops : Array Oper} {i : Nat} {o : Oper} {r : List Oper} {x x1 x2 : D} {b b' : B} (hdrop : ops.toList.drop i = o :: r) (hA : Ag F b x) (hsd : SD P τ Sgs F (ops.toList.map (·.dst)) o x x1) (hb : opsC τ Sgs F (ops.toList.map (·.dst)) b (o :: r) = some b')
    (ih : Mot P τ Sgs (.ops F (ops.toList.map (·.dst)) r x1 x2)) :
    Ag F b' x2 ∧ (∀ g0 w0 (Q : Exit → Act → World → Prop) a w, Sim g0 w0 (b.S F.n x) a w → (∀ a' w', Sim g0 w0 (b'.S F.n x2) a' w' → (∀ z, noDo z (o :: r) = true → a'.tmps.getD z undef = a.tmps.getD z undef) → Q .normal a' w') → wpOps P ops Q (List.range' i (o :: r).length) a w) ∧
      ∀ b2, opsK τ Sgs F (ops.toList.map (·.dst)) b (o :: r) = some b2 → RunF P τ Sgs F (ops.toList.map (·.dst)) ops (List.range' i (o :: r).length) x x2 := by
  obtain ⟨hi, hdrop'⟩ := getElem_of_drop hdrop
  simp only [opsC] at hb
  split at hb <;> try cases hb
  rename_i b1 hb1
  obtain ⟨hA1, hw1⟩ := hsd.step hT hA hi hb1
  obtain ⟨hA2, hw2, hr2⟩ := ih ops (i + 1) hdrop' rfl b1 b' hb hA1
  refine ⟨hA2, fun g0 w0 Q a w hs hQ => ?_, fun b2 hK => ?_⟩
  · rw [List.length_cons, List.range'_succ, wpOps_cons]
    refine hw1 g0 w0 Q _ a w hs (fun v w' hs' => hw2 g0 w0 Q _ w' hs' (fun a' w'' hs'' hz => hQ a' w'' hs'' (fun z hno => ?_)))
    simp only [noDo, Bool.and_eq_true, Bool.not_eq_true', decide_eq_false_iff_not] at hno
    rw [hz z hno.2]
    exact put_other hno.1
  · obtain ⟨h0, b1', h1, h2⟩ := opsK_cons hK
    rw [hb1] at h1; cases h1
    rw [List.length_cons, List.range'_succ]
    exact ⟨o, x1, hi, FitO.of hA h0, hsd, hr2 b2 h2⟩

theorem OpW.of {g0 : G} {w0 : World} {o : Oper} {s s' : St} (h : OpW P g0 w0 o s s') : ∀ (Q : Exit → Act → World → Prop) (K : Act → World → Prop) a w, Sim g0 w0 s a w → (∀ v w', Sim g0 w0 s' (a.put o.dst v) w' → K (a.put o.dst v) w') → o.wp P a w K Q := h

theorem exit_then {K : Act → World → Prop} {Q : Exit → Act → World → Prop} {e : Ek} (he : e ≠ .n) {a : Act} {w : World} : Exit.then K Q e.exit a w = Q e.exit a w := by
  cases e with
  | n => exact absurd rfl he
  | r => rfl
  | e i => rfl

theorem exit_block {Q : Exit → Act → World → Prop} {id : Nat} {e : Ek} {a : Act} {w : World} (h : Q (inBlk id e).exit a w) : Exit.inBlock id Q e.exit a w := by
  unfold inBlk at h
  cases e with
  | n => rw [if_neg (by simp)] at h; exact h
  | r => rw [if_neg (by simp)] at h; exact h
  | e i =>
    by_cases hi : i = id
    · subst hi
      rw [if_pos rfl] at h
      simp only [Exit.inBlock, Ek.exit, if_true]
      exact h
    · rw [if_neg (by simpa using hi)] at h
      simp only [Exit.inBlock, Ek.exit, if_neg hi]
      exact h

theorem shapesIn_of {F : FA} : ∀ {l : List V} {i0 : Nat}, shapesIn F i0 l = true → ∀ {i : Nat} {v : V}, l[i]? = some v → fits v (F.shOf (i0 + i)) = true
  | [], _, _, i, v, h => by simp at h
  | p :: r, i0, h, 0, v, h2 => by
    simp only [shapesIn, Bool.and_eq_true] at h
    simp only [List.getElem?_cons_zero, Option.some.injEq] at h2
    subst h2; exact h.1
  | p :: r, i0, h, i + 1, v, h2 => by
    simp only [shapesIn, Bool.and_eq_true] at h
    simp only [List.getElem?_cons_succ] at h2
    have := shapesIn_of h.2 h2
    rwa [show i0 + 1 + i = i0 + (i + 1) by omega] at this
theorem shapesOb_of {F : FA} : ∀ {l : List (List T)} {i0 : Nat}, shapesOb F i0 l = true → ∀ {i : Nat} {v : List T}, l[i]? = some v → confs v (F.obOf (par + (i0 + i))) = true
  | [], _, _, i, v, h => by simp at h
  | p :: r, i0, h, 0, v, h2 => by
    simp only [shapesOb, Bool.and_eq_true] at h
    simp only [List.getElem?_cons_zero, Option.some.injEq] at h2
    subst h2; exact h.1
  | p :: r, i0, h, i + 1, v, h2 => by
    simp only [shapesOb, Bool.and_eq_true] at h
    simp only [List.getElem?_cons_succ] at h2
    have := shapesOb_of h.2 h2
    rwa [show i0 + 1 + i = i0 + (i + 1) by omega] at this
theorem obsOut_of {x : D} : ∀ {l l' : List (List T)} {i0 : Nat}, obsOut x i0 l = some l' → l'.length = l.length ∧ ∀ j, j < l.length → l'[j]? = x.ob (par + (i0 + j))
  | [], l', i0, h => by cases h; exact ⟨rfl, fun j hj => by simp at hj⟩
  | p :: r, l', i0, h => by
    unfold obsOut at h
    split at h <;> try cases h
    rename_i cs css h1 h2
    obtain ⟨q1, q2⟩ := obsOut_of h2
    refine ⟨by simp [q1], fun j hj => ?_⟩
    cases j with
    | zero => simp [h1]
    | succ j =>
      have := q2 j (by simpa using hj)
      simp only [List.getElem?_cons_succ]
      rw [this, show i0 + 1 + j = i0 + (j + 1) by omega]

theorem big_sound (hM : P.follows .mixedOrders = true) (hT : Tables P τ) (hS : ∀ f sg, sg ∈ Sgs f → ∀ fn c, P.funcs[f]? = some fn → fn.body = some c → fnC τ An Sgs f sg fn c = true) {J : Jd} (h : Big P τ An J) : Mot P τ Sgs J := by
  induction h with
  | skip F x => exact fun b outs hb hA => by cases hb; exact ⟨b, 0, rfl, hA, fun g0 w0 Q a w hs hQ => ⟨wp_skip (hQ a w hs (fun _ _ => rfl)), fun c' e => by cases e⟩⟩
  | label F l x => exact fun b outs hb hA => by cases hb; exact ⟨b, 0, rfl, hA, fun g0 w0 Q a w hs hQ => ⟨wp_label (hQ a w hs (fun _ _ => rfl)), fun c' e => by cases e⟩⟩
  | exit F i x =>
    intro b outs hb hA
    cases hb
    refine ⟨b, 0, by simp [getE, ekeq_refl], hA, fun g0 w0 Q a w hs hQ => ⟨wp_exit (hQ a w hs (fun _ _ => rfl)), fun c' e => by cases e⟩⟩
  | ret F x => exact fun b outs hb hA => by cases hb; exact ⟨b, 0, rfl, hA, fun g0 w0 Q a w hs hQ => ⟨wp_ret (hQ a w hs (fun _ _ => rfl)), fun c' e => by cases e⟩⟩
  | @seqN F c d x x1 x2 e h1 h2 ih1 ih2 =>
    intro b outs hb hA
    simp only [bodyC] at hb
    split at hb <;> try cases hb
    rename_i o1 ho1
    obtain ⟨b1, k1, g1, hA1, w1⟩ := ih1 b o1 ho1 hA
    rw [g1] at hb
    simp only at hb
    split at hb <;> try cases hb
    rename_i o2 ho2
    obtain ⟨b2, k2, g2, hA2, w2⟩ := ih2 b1 o2 ho2 hA1
    obtain ⟨m1, _⟩ := mergeE_of hb
    obtain ⟨b3, g3, cv⟩ := m1 e b2 g2
    obtain ⟨hA3, cs⟩ := cv x2 hA2
    refine ⟨b3, 0, g3, hA3, fun g0 w0 Q a w hs hQ => ⟨wp_seq (w1 g0 w0 _ a w hs (fun a' w' hs' hz => ?_)).1, fun c' e => by cases e⟩⟩
    refine (w2 g0 w0 Q a' w' hs' (fun a'' w'' hs'' hz2 => hQ a'' w'' (cs _ _ _ _ hs'') (fun z hno => ?_))).1
    simp only [noD, Bool.and_eq_true] at hno
    rw [hz2 z hno.2, hz z hno.1]
  | @seqX F c d x x1 e h1 he ih1 =>
    intro b outs hb hA
    simp only [bodyC] at hb
    split at hb <;> try cases hb
    rename_i o1 ho1
    obtain ⟨b1, k1, g1, hA1, w1⟩ := ih1 b o1 ho1 hA
    have key : ∀ b', getE e outs = some b' → Ag F b' x1 → (∀ g0 w0 a w, Sim g0 w0 (b1.S F.n x1) a w → Sim g0 w0 (b'.S F.n x1) a w) → ∃ (b' : B) (k : Nat), getE e outs = some b' ∧ Ag F b' x1 ∧ ∀ g0 w0 (Q : Exit → Act → World → Prop) a w, Sim g0 w0 (b.S F.n x) a w →
      (∀ a' w', Sim g0 w0 (b'.S F.n x1) a' w' → (∀ z, noD z (.seq c d) = true → a'.tmps.getD z undef = a.tmps.getD z undef) → Q e.exit a' w') → (Code.seq c d).wp P Q a w ∧ ∀ c', Code.seq c d = .loop c' → Code.rounds P c' Q k a w := fun b' hg hA' hcv =>
      ⟨b', 0, hg, hA', fun g0 w0 Q a w hs hQ => ⟨wp_seq (w1 g0 w0 _ a w hs (fun a' w' hs' hz => by
        rw [exit_then he]
        refine hQ a' w' (hcv _ _ _ _ hs') (fun z hno => ?_)
        simp only [noD, Bool.and_eq_true] at hno
        exact hz z hno.1)).1, fun c' e => by cases e⟩⟩
    cases hn : getE .n o1 with
    | none =>
      rw [hn] at hb
      cases hb
      exact key b1 g1 hA1 (fun _ _ _ _ h => h)
    | some bn =>
      rw [hn] at hb
      simp only at hb
      split at hb <;> try cases hb
      rename_i o2 ho2
      obtain ⟨_, m2⟩ := mergeE_of hb
      obtain ⟨b3, g3, cv⟩ := m2 e b1 (by rw [getE_drop he]; exact g1)
      obtain ⟨hA3, cs⟩ := cv x1 hA1
      exact key b3 g3 hA3 cs
  | @cond F cnd c d x x1 e t hc h1 ih1 =>
    intro b outs hb hA
    simp only [bodyC] at hb
    obtain ⟨hk, hb⟩ := cond_some hb
    split at hb <;> try cases hb
    rename_i o1 o2 ho1 ho2
    obtain ⟨m1, m2⟩ := mergeE_of hb
    have hcv : ∀ {g0 : G} {w0 : World} {a : Act} {w : World}, Sim g0 w0 (b.S F.n x) a w → a.eval cnd = .bool t := fun hs => by
      obtain ⟨g, hsg⟩ := hs
      have := hsg.ev_rv cnd (fun _ _ => .none)
      rw [S_ev hk, hc] at this
      exact rv_bool this
    cases t with
    | true =>
      obtain ⟨b1, k1, g1, hA1, w1⟩ := ih1 b o1 ho1 hA
      obtain ⟨b3, g3, cv⟩ := m2 e b1 g1
      obtain ⟨hA3, cs⟩ := cv x1 hA1
      refine ⟨b3, 0, g3, hA3, fun g0 w0 Q a w hs hQ => ⟨wp_cond_true (hcv hs) (w1 g0 w0 Q a w hs (fun a' w' hs' hz => hQ a' w' (cs _ _ _ _ hs') (fun z hno => ?_))).1, fun c' e => by cases e⟩⟩
      simp only [noD, Bool.and_eq_true] at hno
      exact hz z hno.1
    | false =>
      obtain ⟨b1, k1, g1, hA1, w1⟩ := ih1 b o2 ho2 hA
      obtain ⟨b3, g3, cv⟩ := m1 e b1 g1
      obtain ⟨hA3, cs⟩ := cv x1 hA1
      refine ⟨b3, 0, g3, hA3, fun g0 w0 Q a w hs hQ => ⟨wp_cond_false (hcv hs) (w1 g0 w0 Q a w hs (fun a' w' hs' hz => hQ a' w' (cs _ _ _ _ hs') (fun z hno => ?_))).1, fun c' e => by cases e⟩⟩
      simp only [noD, Bool.and_eq_true] at hno
      exact hz z hno.2
  | @block F id c x x1 e h1 ih1 =>
    intro b outs hb hA
    simp only [bodyC] at hb
    split at hb <;> try cases hb
    rename_i o1 ho1
    obtain ⟨b1, k1, g1, hA1, w1⟩ := ih1 b o1 ho1 hA
    have key : ∀ b', getE (inBlk id e) outs = some b' → Cv F b1 b' → ∃ (b' : B) (k : Nat), getE (inBlk id e) outs = some b' ∧ Ag F b' x1 ∧ ∀ g0 w0 (Q : Exit → Act → World → Prop) a w, Sim g0 w0 (b.S F.n x) a w →
      (∀ a' w', Sim g0 w0 (b'.S F.n x1) a' w' → (∀ z, noD z (.block id c) = true → a'.tmps.getD z undef = a.tmps.getD z undef) → Q (inBlk id e).exit a' w') → (Code.block id c).wp P Q a w ∧ ∀ c', Code.block id c = .loop c' → Code.rounds P c' Q k a w := fun b' hg hcv => by
      obtain ⟨hA', cs⟩ := hcv x1 hA1
      exact ⟨b', 0, hg, hA', fun g0 w0 Q a w hs hQ => ⟨wp_block (w1 g0 w0 _ a w hs (fun a' w' hs' hz => exit_block (hQ a' w' (cs _ _ _ _ hs') hz))).1, fun c' e => by cases e⟩⟩
    cases hi : getE (.e id) o1 with
    | none =>
      rw [hi] at hb
      cases hb
      have hne : e ≠ .e id := fun he => by subst he; rw [hi] at g1; cases g1
      have e1 : inBlk id e = e := by unfold inBlk; rw [if_neg hne]
      rw [e1] at key ⊢
      exact key b1 g1 (Cv.refl F b1)
    | some bi =>
      rw [hi] at hb
      simp only at hb
      obtain ⟨a1, b', a2, a3⟩ := addE_of hb
      by_cases he : e = .e id
      · have e1 : inBlk id e = .n := by unfold inBlk; rw [if_pos he]
        rw [e1] at key ⊢
        rw [he, hi] at g1
        cases g1
        exact key b' a2 a3
      · have e1 : inBlk id e = e := by unfold inBlk; rw [if_neg he]
        rw [e1] at key ⊢
        obtain ⟨b3, g3, cv⟩ := a1 e b1 (by rw [getE_drop he]; exact g1)
        exact key b3 g3 cv
  | @loopX F c x x1 e h1 he ih1 =>
    intro b outs hb hA
    simp only [bodyC] at hb
    obtain ⟨hd, o, cv, hf, ho, _, _⟩ := iterC_of hb
    obtain ⟨hAh, csh⟩ := cv x hA
    obtain ⟨b1, k1, g1, hA1, w1⟩ := ih1 hd o hf hAh
    refine ⟨b1, 1, by rw [ho, getE_drop he]; exact g1, hA1, fun g0 w0 Q a w hs hQ => ?_⟩
    have hr : Code.rounds P c Q 1 a w := (w1 g0 w0 _ a w (csh _ _ _ _ hs) (fun a' w' hs' hz => by rw [exit_then he]; exact hQ a' w' hs' hz)).1
    exact ⟨wp_loop_rounds 1 hr, fun c' e => by cases e; exact hr⟩
  | @loopN F c x x1 x2 e h1 h2 ih1 ih2 =>
    intro b outs hb hA
    simp only [bodyC] at hb
    obtain ⟨hd, o, cv, hf, ho, hback, hfix⟩ := iterC_of hb
    obtain ⟨hAh, csh⟩ := cv x hA
    obtain ⟨b1, k1, g1, hA1, w1⟩ := ih1 hd o hf hAh
    obtain ⟨hA1', csb⟩ := hback b1 g1 x1 hA1
    obtain ⟨b2, k2, g2, hA2, w2⟩ := ih2 hd outs (hfix 3) hA1'
    refine ⟨b2, k2 + 1, g2, hA2, fun g0 w0 Q a w hs hQ => ?_⟩
    have hr : Code.rounds P c Q (k2 + 1) a w := by
      rw [rounds_succ]
      refine (w1 g0 w0 _ a w (csh _ _ _ _ hs) (fun a' w' hs' hz => ?_)).1
      exact (w2 g0 w0 Q a' w' (csb _ _ _ _ hs') (fun a'' w'' hs'' hz2 => hQ a'' w'' hs'' (fun z hno => (hz2 z hno).trans (hz z hno)))).2 c rfl
    exact ⟨wp_loop_rounds _ hr, fun c' e => by cases e; exact hr⟩
  | @region F id ops dr x x1 h1 ih1 =>
    intro b outs hb hA
    simp only [bodyC] at hb
    cases dr with
    | true =>
      simp only [cond_true] at hb
      split at hb <;> try cases hb
      rename_i b1 hb1
      unfold anyC at hb1
      obtain ⟨hc, hb1⟩ := cond_some hb1
      simp only [Bool.and_eq_true] at hc
      obtain ⟨hO, hK⟩ := hc
      split at hb1 <;> try cases hb1
      rename_i mf hlv
      obtain ⟨b2, hK⟩ := Option.isSome_iff_exists.1 hK
      obtain ⟨hA1, _, hrun⟩ := ih1 ops 0 rfl rfl b b2 (opsK_opsC hK) hA
      have hrun := hrun b2 hK
      have hle : (List.range ops.size).filter (fun j => !(Array.replicate ops.size false).getD j true) = List.range' 0 ops.toList.length := by
        rw [List.filter_eq_self.2 (fun j hj => by
          have := List.mem_range.1 hj
          simp [Array.getD, this]), List.range_eq_range']
        simp
      have hgo : ∀ (g0 : G) (w0 : World) (Q : Exit → Act → World → Prop) (a : Act) (w : World), Sim g0 w0 (b.S F.n x) a w → (∀ a' w', Ag F b1 x1 → Sim g0 w0 (b1.S F.n x1) a' w' → (∀ z, noDo z ops.toList = true → a'.tmps.getD z undef = a.tmps.getD z undef) → Q .normal a' w') →
          wpAny P .any ops Q ops.size (Array.replicate ops.size false) a { w with drawn := w.drawn + 1 } := fun g0 w0 Q a w hs hQ =>
        any_ok (a0 := a) hT hO hQ ops.size (Array.replicate ops.size false) 0 [(0, b)] b x a _ hlv (by simp [getL]) (by simp) (fun i hi => by simp [Array.getD, hi]) (fun j o ho hj => by
          have := (Array.getElem?_eq_some_iff.1 ho).1
          simp [Array.getD, this] at hj) (by
          rw [List.countP_eq_length_filter, hle]; simp) hA (by rw [hle]; exact hrun) (hs.drawn _) (fun _ _ => rfl)
      have hA2 := levels_ag hT hO ops.size 0 0 [(0, b)] b x (by simp) hlv (by simp [getL]) (fun i hi => by simp) hA (by simpa using hrun)
      obtain ⟨hA3, cs⟩ := keep_cv F id b1 x1 hA2
      exact ⟨_, 0, rfl, hA3, fun g0 w0 Q a w hs hQ => ⟨wp_region_any hM (hgo g0 w0 Q a w hs (fun a' w' _ hs' hz => hQ a' w' (cs _ _ _ _ hs') hz)), fun c' e => by cases e⟩⟩
    | false =>
      simp only [cond_false] at hb
      split at hb <;> try cases hb
      rename_i b1 hb1
      obtain ⟨hA1, w1, _⟩ := ih1 ops 0 rfl rfl b b1 hb1 hA
      obtain ⟨hA2, cs⟩ := keep_cv F id b1 x1 hA1
      refine ⟨_, 0, rfl, hA2, fun g0 w0 Q a w hs hQ => ⟨wp_region ?_, fun c' e => by cases e⟩⟩
      have := w1 g0 w0 Q a w hs (fun a' w' hs' hz => hQ a' w' (cs _ _ _ _ hs') hz)
      rw [List.range_eq_range']
      simpa using this
  | opsNil F ds x =>
    intro ops i _ _ b b' hb hA
    cases hb
    exact ⟨hA, fun g0 w0 Q a w hs hQ => hQ a w hs (fun _ _ => rfl), fun b2 _ => rfl⟩
  | @opsSkip F ds o r x x2 hg h2 ih2 =>
    intro ops i hdrop hds b b' hb hA
    subst hds
    exact step_rest hT hdrop hA (.inl ⟨hg, rfl⟩) hb ih2
  | @opsRun F ds o r x x1 x2 hg h1 h2 ih2 =>
    intro ops i hdrop hds b b' hb hA
    subst hds
    exact step_rest hT hdrop hA (.inr (.inl ⟨hg, h1⟩)) hb ih2
  | @opsCall F ds o rs x x2 c v f caps ob ob' r nw hg ho hcal hx hth hob h1 hsh h2 ih1 ih2 =>
    intro ops i hdrop hds b b' hb hA
    subst hds
    exact step_rest hT hdrop hA (.inr (.inr ⟨hg, c, v, f, caps, ob, ob', r, nw, ho, hcal, hx, hth, hob, fun sg hsg e1 e2 => ih1 sg hsg e1 e2, hsh, rfl⟩)) hb ih2
  | @fn f fn c vs ob ob' e x' ws hf hb hsh hso h1 he hws hio hob ih1 =>
    intro sg hsg hnp hno g w us hsim
    have hq := hS f sg hsg fn c hf hb
    unfold fnC at hq
    simp only [Bool.and_eq_true] at hq
    obtain ⟨⟨⟨⟨⟨⟨⟨⟨⟨q1, q2⟩, q3⟩, q4⟩, q5⟩, q6⟩, q7⟩, q8⟩, q9⟩, q10⟩ := hq
    have hn := Nat.eq_of_beq_eq_true q1
    have hp := Nat.le_of_ble_eq_true q2
    have hio0 : sg.io = none := by revert q7; cases sg.io <;> simp
    cases hout : bodyC τ Sgs (An f) c sg.bi with
    | none => rw [hout] at q10; cases q10
    | some outs =>
      rw [hout] at q10
      simp only [Bool.and_eq_true] at q10
      -- what it is entered with
      have hAg : Ag (An f) sg.bi (DA vs ob) := by
        refine ⟨fun i hi => ?_, fun o ho => ?_⟩
        · right
          simp only [B.has] at hi
          cases hl : look i sg.bi.sl with
          | none => rw [hl] at hi; cases hi
          | some κ =>
            have hlt : i < vs.length := by rw [← hnp]; exact blt_of (List.all_eq_true.1 q5 _ (look_mem hl))
            have := shapesIn_of hsh (List.getElem?_eq_getElem hlt)
            rw [Nat.zero_add] at this
            have e : (DA vs ob).sl i = vs[i] := by simp [DA, List.getD, List.getElem?_eq_getElem hlt]
            rw [e]; exact this
        · simp only [B.hasO] at ho
          cases hl : look o sg.bi.ob with
          | none => rw [hl] at ho; cases ho
          | some κ =>
            have h3 := List.all_eq_true.1 q6 _ (look_mem hl)
            simp only [Bool.and_eq_true] at h3
            have h4 := Nat.le_of_ble_eq_true h3.1
            have h5 := blt_of h3.2
            have hlt : o - par < ob.length := by rw [← hno]; omega
            have := shapesOb_of hso (List.getElem?_eq_getElem hlt)
            rw [Nat.zero_add, Nat.add_sub_of_le h4] at this
            exact ⟨ob[o - par], by simp [DA, h4, List.getElem?_eq_getElem hlt], this⟩
      obtain ⟨b', k, hg, hA', hw⟩ := ih1 sg.bi outs hout hAg
      have hcall : (callFunc f us).run P w = .ok (.enter f us) w := by
        have hne : fn.name ≠ "runtime.NumGoroutine" := by simpa using q4
        simp [callFunc, run_program, hf, hne, hb]
      rw [hcall]
      show Calls P f us w _
      refine calls_of_wp hf hb ?_
      have hsim2 := hsim.body (n := fn.ntmps) (Nat.le_of_ble_eq_true q3) hp
      rw [hn] at hw
      refine (hw g w _ _ w ⟨g, hsim2⟩ (fun a' w' hs' hz => ?_)).1
      obtain ⟨g', hs'⟩ := hs'
      have hchk : resAll (An f) b' sg.bo (sigR (An f) fn.results.toList (An f).n0 none) 0 fn.results.toList = true ∧ objsB (An f) b' sg.bo (An f).n0 = true := by
        rcases he with rfl | rfl
        · have := q10.1; rw [hg] at this; simpa using this
        · have := q10.2; rw [hg] at this; simpa using this
      have hbo : ∀ i, sg.bo.has i = true → i = 0 := fun i hi => by
        simp only [B.has] at hi
        cases hl : look i sg.bo.sl with
        | none => rw [hl] at hi; cases hi
        | some κ => exact Nat.eq_of_beq_eq_true (List.all_eq_true.1 q8 _ (look_mem hl))
      have hobd : ∀ oc o1, sg.bo.hasO oc = true → retO (An f).n0 o1 = some oc → (DR ((retV ws).to (retO (An f).n0)) none ob' ((An f).n0.bind x'.ob)).ob oc = x'.ob o1 := fun oc o1 hoc hret => by
        -- the objects that were handed in
        obtain ⟨hol, hog⟩ := obsOut_of hob
        simp only [retO] at hret
        split at hret
        · rename_i hpo
          cases hret
          have h1 : sg.bi.hasO oc = true := by
            simp only [B.hasO] at hoc
            cases hl : look oc sg.bo.ob with
            | none => rw [hl] at hoc; cases hoc
            | some κ =>
              have := List.all_eq_true.1 q9 _ (look_mem hl)
              simp only [Bool.or_eq_true] at this
              rcases this with h | h
              · have := Nat.eq_of_beq_eq_true h
                subst this
                exact absurd hpo par_pos
              · exact h
          simp only [B.hasO] at h1
          cases hl : look oc sg.bi.ob with
          | none => rw [hl] at h1; cases h1
          | some κ =>
            have h3 := List.all_eq_true.1 q6 _ (look_mem hl)
            simp only [Bool.and_eq_true] at h3
            have h5 := blt_of h3.2
            have hlt : oc - par < ob.length := by rw [← hno]; omega
            have := hog (oc - par) hlt
            rw [Nat.zero_add, Nat.add_sub_of_le hpo] at this
            simp only [DR, if_pos hpo, this]
        · split at hret
          · rename_i hpo hn0
            cases hret
            simp only [DR, if_neg par_pos, if_true, hn0, Option.bind_some]
          · cases hret
      obtain ⟨us', hl', hrun, g'', hfin⟩ := SimG.ret hT hs' hA' (io := none) (iov := none) (u1 := us.getD (sg.io.getD 0) undef) (ob := ob') (nw := (An f).n0.bind x'.ob) hws hchk.1 hchk.2 hobd (fun z e => by cases e) (fun _ => by
        cases h1 : sg.bo.has 1 with
        | false => rfl
        | true => exact absurd (hbo 1 h1) (by simp)) (fun i hi => by rw [hbo i hi]; omega)
      have hres := run_results (P := P) (w := w') (fn := fn) (tmps := a'.tmps) hl' hrun
      have hpost : bodyPost P fn (fun e w' => ∃ v, e = .returned v ∧ ∃ g', SimG g w (sg.bo.S 2 (DR ((retV ws).to (retO (An f).n0)) none ob' ((An f).n0.bind x'.ob))) ⟨#[v, us.getD (sg.io.getD 0) undef], []⟩ g' w') .normal a' w' := ⟨hs'.defers, _, hres, _, rfl, g'', hfin⟩
      rcases he with rfl | rfl
      · exact hpost
      · exact hpost
end
end Go.Own

/- Conditions under which code runs on data to what is wanted. -/
namespace Go.Own
open Go.RowKit

section
variable (P : Program) (τ : TypeId → Option TI) (An : FuncId → FA)

/-- A run to what Q tells. -/
def Wd (F : FA) (c : Code) (x : D) (Q : Ek → D → Prop) : Prop := ∃ e x', Big P τ An (.code F c x e x') ∧ Q e x'
def Wo (F : FA) (ds : List (Option Nat)) (os : List Oper) (x : D) (Q : D → Prop) : Prop := ∃ x', Big P τ An (.ops F ds os x x') ∧ Q x'

def thenD (K : D → Prop) (Q : Ek → D → Prop) : Ek → D → Prop
  | .n, x => K x
  | e, x => Q e x
def blkD (id : Nat) (Q : Ek → D → Prop) (e : Ek) (x : D) : Prop := Q (inBlk id e) x

/-- A call's condition. -/
def vcCall (F : FA) (o : Oper) (c : Call) (v : Operand) (x : D) (K : D → Prop) : Prop :=
  ∃ f caps ob ob' r nw, ev x.sl v = .one (.fn f caps) ∧ c.args.toList.all (fun v => thereV (ev x.sl v)) = true ∧ ob.map some = (osOf F c v).map x.ob ∧ Big P τ An (.fn f (inV x c caps (osOf F c v)) ob r none ob' nw) ∧
    callShapes F (x.call o.dst (ndOf F o.dst) (osOf F c v) (DR r none ob' nw)) o.dst (ndOf F o.dst) (osOf F c v) = true ∧ K (x.call o.dst (ndOf F o.dst) (osOf F c v) (DR r none ob' nw))
def vcRun (F : FA) (o : Oper) (x : D) (K : D → Prop) : Prop := match calleeV o with
  | some (c, v) => vcCall P τ An F o c v x K
  | none => ∃ x1, dOp τ F x o = some x1 ∧ K x1
def vcOne (F : FA) (ds : List (Option Nat)) (o : Oper) (x : D) (K : D → Prop) : Prop := match guardD ds x o.guard with
  | some true => vcRun P τ An F o x K
  | some false => K (skipD x o.dst)
  | none => False
def vcOps (F : FA) (ds : List (Option Nat)) : List Oper → D → (D → Prop) → Prop
  | [], x, K => K x
  | o :: r, x, K => vcOne P τ An F ds o x (fun x1 => vcOps F ds r x1 K)

def vcC (F : FA) : Code → D → (Ek → D → Prop) → Prop
  | .skip, x, Q => Q .n x
  | .label _, x, Q => Q .n x
  | .exit i, x, Q => Q (.e i) x
  | .ret, x, Q => Q .r x
  | .seq a b, x, Q => vcC F a x (thenD (fun x1 => vcC F b x1 Q) Q)
  | .cond c a b, x, Q => ∃ t, ev x.sl c = .one (.c (.bool t)) ∧ (t = true → vcC F a x Q) ∧ (t = false → vcC F b x Q)
  | .block id c, x, Q => vcC F c x (blkD id Q)
  | .loop c, x, Q => Wd P τ An F (.loop c) x Q
  | .region _ ops _, x, Q => vcOps P τ An F (ops.toList.map (·.dst)) ops.toList x (fun x1 => Q .n x1)
  | _, _, _ => False
end

section
variable {P : Program} {τ : TypeId → Option TI} {An : FuncId → FA}

theorem vcOps_ok {F : FA} {ds : List (Option Nat)} : ∀ {os : List Oper} {x : D} {K : D → Prop}, vcOps P τ An F ds os x K → Wo P τ An F ds os x K
  | [], x, K, h => ⟨x, .opsNil F ds x, h⟩
  | o :: r, x, K, h => by
    simp only [vcOps, vcOne] at h
    split at h
    · rename_i hg
      unfold vcRun at h
      split at h
      · rename_i c v hc
        obtain ⟨f, caps, ob, ob', rr, nw, h1, h2, h3, h4, h5, h6⟩ := h
        obtain ⟨x', q1, q2⟩ := vcOps_ok h6
        have hoc : o.op = .call c ∧ c.callee = .value v := by
          unfold calleeV at hc
          split at hc <;> try cases hc
          rename_i c' ho
          split at hc <;> try cases hc
          rename_i v' hv
          exact ⟨ho, hv⟩
        exact ⟨x', .opsCall hg hoc.1 hoc.2 h1 h2 h3 h4 h5 q1, q2⟩
      · obtain ⟨x1, h1, h2⟩ := h
        obtain ⟨x', q1, q2⟩ := vcOps_ok h2
        exact ⟨x', .opsRun hg h1 q1, q2⟩
    · rename_i hg
      obtain ⟨x', q1, q2⟩ := vcOps_ok h
      exact ⟨x', .opsSkip hg q1, q2⟩
    · exact h.elim

theorem vcC_ok {F : FA} : ∀ {c : Code} {x : D} {Q : Ek → D → Prop}, vcC P τ An F c x Q → Wd P τ An F c x Q
  | .skip, x, Q, h => ⟨.n, x, .skip F x, h⟩
  | .label l, x, Q, h => ⟨.n, x, .label F l x, h⟩
  | .exit i, x, Q, h => ⟨.e i, x, .exit F i x, h⟩
  | .ret, x, Q, h => ⟨.r, x, .ret F x, h⟩
  | .seq a b, x, Q, h => by
    obtain ⟨e, x1, h1, h2⟩ := vcC_ok (c := a) h
    by_cases he : e = .n
    · subst he
      obtain ⟨e2, x2, q1, q2⟩ := vcC_ok (c := b) h2
      exact ⟨e2, x2, .seqN h1 q1, q2⟩
    · refine ⟨e, x1, .seqX h1 he, ?_⟩
      cases e with
      | n => exact absurd rfl he
      | r => exact h2
      | e i => exact h2
  | .cond c a b, x, Q, h => by
    obtain ⟨t, hc, h1, h2⟩ := h
    cases t with
    | true =>
      obtain ⟨e, x1, q1, q2⟩ := vcC_ok (c := a) (h1 rfl)
      exact ⟨e, x1, .cond hc q1, q2⟩
    | false =>
      obtain ⟨e, x1, q1, q2⟩ := vcC_ok (c := b) (h2 rfl)
      exact ⟨e, x1, .cond hc q1, q2⟩
  | .block id c, x, Q, h => by
    obtain ⟨e, x1, h1, h2⟩ := vcC_ok (c := c) h
    exact ⟨_, x1, .block h1, h2⟩
  | .loop c, x, Q, h => h
  | .region id ops dr, x, Q, h => by
    obtain ⟨x1, h1, h2⟩ := vcOps_ok h
    exact ⟨.n, x1, .region h1, h2⟩
  | .scope c, x, Q, h => h.elim
  | .rangeFunc _ _ _ _, x, Q, h => h.elim
  | .goto _, x, Q, h => h.elim
  | .refuse _, x, Q, h => h.elim

/-- A loop whose head's data are told by I, with so many rounds left at most. -/
theorem Wd.loop {F : FA} {c : Code} {Q : Ek → D → Prop} (I : Nat → D → Prop) (round : ∀ n x, I n x → vcC P τ An F c x (thenD (fun x' => ∃ m, m < n ∧ I m x') Q)) : ∀ {n : Nat} {x : D}, I n x → Wd P τ An F (.loop c) x Q := by
  intro n
  induction n using Nat.strongRecOn with
  | _ n ih =>
    intro x h
    obtain ⟨e, x1, h1, h2⟩ := vcC_ok (round n x h)
    by_cases he : e = .n
    · subst he
      obtain ⟨m, hm, hi⟩ := h2
      obtain ⟨e2, x2, q1, q2⟩ := ih m hm hi
      exact ⟨e2, x2, .loopN h1 q1, q2⟩
    · refine ⟨e, x1, .loopX h1 he, ?_⟩
      cases e with
      | n => exact absurd rfl he
      | r => exact h2
      | e i => exact h2
end
end Go.Own

/- A function's run; how data are looked up. -/
namespace Go.Own
open Go.RowKit

section
variable {P : Program} {τ : TypeId → Option TI} {An : FuncId → FA}

theorem Big.of {f : FuncId} {fn : Func} {c : Code} {vs : List V} {ob ob' : List (List T)} {r : V} {nw : Option (List T)} (hf : P.funcs[f]? = some fn) (hb : fn.body = some c) (hsh : shapesIn (An f) 0 vs = true) (hso : shapesOb (An f) 0 ob = true) (hio : (An f).io = none)
    (h : vcC P τ An (An f) c (DA vs ob) (fun e x => (e = .n ∨ e = .r) ∧ ∃ ws, resWs τ x fn.results.toList = some ws ∧ (retV ws).to (retO (An f).n0) = r ∧ obsOut x 0 ob = some ob' ∧ (An f).n0.bind x.ob = nw)) : Big P τ An (.fn f vs ob r none ob' nw) := by
  obtain ⟨e, x', h1, he, ws, h2, rfl, h3, rfl⟩ := vcC_ok h
  exact .fn hf hb hsh hso h1 he h2 hio h3

section
variable (x : D) (d i : Nat) (v : V)
@[simp] theorem put_sl : (x.put d v).sl i = if i = d then v else x.sl i := rfl.trans rfl
@[simp] theorem put_ob : (x.put d v).ob = x.ob := rfl.trans rfl
@[simp] theorem setO_sl (cs : List T) : (x.setO d cs).sl = x.sl := rfl.trans rfl
@[simp] theorem setO_ob (cs : List T) : (x.setO d cs).ob i = if i = d then some cs else x.ob i := rfl.trans rfl
@[simp] theorem DA_sl (vs : List V) (ob : List (List T)) : (DA vs ob).sl i = vs.getD i (.one .junk) := rfl.trans rfl
@[simp] theorem DA_ob (vs : List V) (ob : List (List T)) : (DA vs ob).ob i = if par ≤ i then ob[i - par]? else none := rfl.trans rfl
end
@[simp] theorem ev_tmp (sl : Nat → V) (t : Nat) : ev sl (.tmp t) = sl t := rfl.trans rfl
@[simp] theorem ev_func (sl : Nat → V) (f : FuncId) : ev sl (.func f) = .one (.fn f []) := rfl.trans rfl
@[simp] theorem ev_int (sl : Nat → V) (k : IntKind) (n : Int) : ev sl (.const (.int k n)) = .one (.c (.int k n)) := rfl.trans rfl
@[simp] theorem ev_bool (sl : Nat → V) (b : Bool) : ev sl (.const (.bool b)) = .one (.c (.bool b)) := rfl.trans rfl
@[simp] theorem ev_str (sl : Nat → V) (b : ByteArray) : ev sl (.const (.string b)) = .one (.c (.str b.data.toList)) := rfl.trans rfl
@[simp] theorem ev_nil (sl : Nat → V) : ev sl (.const (.slice none 0 0)) = .one (.c (.sl [])) := rfl.trans rfl
@[simp] theorem ev_nilp (sl : Nat → V) : ev sl (.const (.pointer none)) = .one .nilp := rfl.trans rfl

/-- A put whose shape is seen. -/
theorem putD_eq {F : FA} {x : D} {d : Nat} {v : V} (h : fits v (F.shOf d) = true) : putD F x d v = some (x.put d v) := by
  unfold putD; rw [h]; rfl
end
end Go.Own

/- From a row's world to the call. -/
namespace Go.Own
open Go.RowKit

def G.old : G := { β := fun _ => 0, own := fun _ => .none }

theorem TC.row {P : Program} {f : FuncId} {fn : Func} {c : Code} {sg : Sg} {args : List V} (h : TC P f sg args [] (.one (.c (.bool true))) none [] none) (hb0 : sg.bo.has 0 = true) (hbo : sg.bi.ob = []) (hnp : sg.np = args.length) (hle : sg.np ≤ par)
    (hf : P.funcs[f]? = some fn) (hb : fn.body = some c) (hname : (fn.name == "runtime.NumGoroutine") = false) (w : World) (us : Array Value) (hsz : us.size = args.length)
    (hroot : ∀ i, rootOf (args.getD i (.one .junk)) = .none) (hvs : ∀ i, sg.bi.has i = true → RV G.old w (fun k j => sg.bi.kd (.s i k j)) (fun k j => .s i k j) (us.getD i undef) (args.getD i (.one .junk))) :
    Calls P f us w fun e w' => e = .returned (.bool true) ∧ Below w.heap.size w w' := by
  have hs : SimG G.old w (sg.bi.S sg.np (DA args [])) ⟨us, []⟩ G.old w := by
    refine ⟨Framed.refl _ _, ⟨fun b h => absurd rfl h⟩, by rw [hsz, ← hnp]; rfl, rfl, fun i => ?_, fun o cells ho => ?_, fun i hi => ?_, fun _ _ => rfl, hle⟩
    · show RV _ w (fun k j => sg.bi.kd (.s i k j)) _ (us.getD i undef) (if sg.bi.has i = true then args.getD i (.one .junk) else .one .junk)
      by_cases e : sg.bi.has i = true
      · rw [if_pos e]; exact hvs i e
      · rw [if_neg e]; trivial
    · have ho' : (if sg.bi.hasO o = true then (DA args []).ob o else none) = some cells := ho
      split at ho' <;> try cases ho'
      rename_i e
      simp only [B.hasO, hbo, look] at e
      cases e
    · exfalso
      apply hi
      show rootOf (if sg.bi.has i = true then args.getD i (.one .junk) else .one .junk) = .none
      split
      · exact hroot i
      · rfl
  have h1 := h _ w us hs
  have hne : fn.name ≠ "runtime.NumGoroutine" := by simpa using hname
  have hcall : (callFunc f us).run P w = .ok (.enter f us) w := by simp [callFunc, run_program, hf, hne, hb]
  rw [hcall] at h1
  refine Calls.mono h1 ?_
  rintro e w' ⟨v, rfl, g', h2⟩
  have hr := h2.slots 0
  rw [S_sl hb0] at hr
  have hv : v = .bool true := rv_bool hr
  subst hv
  exact ⟨rfl, h2.framed.os, h2.framed.tape, h2.framed.output, h2.framed.evo.size, fun k hk => (h2.framed.evo.keep k hk (fun h => h (.inl rfl))).2⟩

/-- A function's contract, out of its run and the checks. -/
theorem TC.of {P : Program} {τ : TypeId → Option TI} {An : FuncId → FA} {Sgs : FuncId → List Sg} (hM : P.follows .mixedOrders = true) (hT : Tables P τ) (hS : ∀ f sg, sg ∈ Sgs f → ∀ fn c, P.funcs[f]? = some fn → fn.body = some c → fnC τ An Sgs f sg fn c = true)
    {f : FuncId} {vs : List V} {ob ob' : List (List T)} {r : V} {nw : Option (List T)} (h : Big P τ An (.fn f vs ob r none ob' nw)) {sg : Sg} (hsg : sg ∈ Sgs f) (hnp : sg.np = vs.length) (hno : sg.no = ob.length) : TC P f sg vs ob r none ob' nw :=
  big_sound hM hT hS h sg hsg hnp hno
end Go.Own

/- Steps through code, one at a time. -/
namespace Go.Own
open Go.RowKit

section
variable {P : Program} {τ : TypeId → Option TI} {An : FuncId → FA} {F : FA} {ds : List (Option Nat)} {o : Oper} {r : List Oper} {x x1 : D} {K : D → Prop} {Q : Ek → D → Prop}

theorem step_run (hg : guardD ds x o.guard = some true) (hc : calleeV o = none) (h1 : dOp τ F x o = some x1) (h : vcOps P τ An F ds r x1 K) : vcOps P τ An F ds (o :: r) x K := by
  simp only [vcOps, vcOne, hg, vcRun, hc]
  exact ⟨x1, h1, h⟩
theorem step_skip (hg : guardD ds x o.guard = some false) (h1 : skipD x o.dst = x1) (h : vcOps P τ An F ds r x1 K) : vcOps P τ An F ds (o :: r) x K := by
  subst h1
  simp only [vcOps, vcOne, hg]
  exact h
theorem step_nil (h : K x) : vcOps P τ An F ds [] x K := h
theorem step_call {c : Call} {v : Operand} {f : FuncId} {caps : List (Nat × Nat)} {vs : List V} {ob ob' : List (List T)} {rr : V} {nw : Option (List T)} {x1 : D} (hg : guardD ds x o.guard = some true) (hc : calleeV o = some (c, v)) (hx : ev x.sl v = .one (.fn f caps)) (hth : c.args.toList.all (fun v => thereV (ev x.sl v)) = true)
    (hob : ob.map some = (osOf F c v).map x.ob) (hvs : inV x c caps (osOf F c v) = vs) (hB : Big P τ An (.fn f vs ob rr none ob' nw)) (hx1 : x.call o.dst (ndOf F o.dst) (osOf F c v) (DR rr none ob' nw) = x1) (hsh : callShapes F x1 o.dst (ndOf F o.dst) (osOf F c v) = true)
    (h : vcOps P τ An F ds r x1 K) : vcOps P τ An F ds (o :: r) x K := by
  subst hx1; subst hvs
  simp only [vcOps, vcOne, hg, vcRun, hc]
  exact ⟨f, caps, ob, ob', rr, nw, hx, hth, hob, hB, hsh, h⟩
theorem c_seq {a b : Code} (h : vcC P τ An F a x (thenD (fun x1 => vcC P τ An F b x1 Q) Q)) : vcC P τ An F (.seq a b) x Q := h
theorem c_region {id : Nat} {ops : List Oper} {dr : Bool} (h : vcOps P τ An F (ops.map (·.dst)) ops x (fun x1 => Q .n x1)) : vcC P τ An F (.region id ops.toArray dr) x Q := h
theorem c_then {h : Prop} (hh : h) : h := hh
theorem c_cond {c : Operand} {a b : Code} {t : Bool} (hc : ev x.sl c = .one (.c (.bool t))) (h1 : t = true → vcC P τ An F a x Q) (h2 : t = false → vcC P τ An F b x Q) : vcC P τ An F (.cond c a b) x Q := ⟨t, hc, h1, h2⟩
end

end Go.Own

/- Steps by the form of the operation. -/
namespace Go.Own
open Go.RowKit

section
variable {P : Program} {τ : TypeId → Option TI} {An : FuncId → FA} {F : FA} {ds : List (Option Nat)} {r : List Oper} {x : D} {K : D → Prop} {ty : TypeId} {pos : String} {after : Array Edge} {gd : Option (Nat × Bool)} {d : Nat}

theorem s_of {o : Oper} {x1 : D} (hg : guardD ds x o.guard = some true) (hc : calleeV o = none) (h1 : dOp τ F x o = some x1) (h : vcOps P τ An F ds r x1 K) : vcOps P τ An F ds (o :: r) x K := step_run hg hc h1 h

theorem s_assign {y : Operand} {v : V} (hg : guardD ds x gd = some true) (hv : ev x.sl y = v) (ht : thereV v = true) (hf : fits v (F.shOf d) = true) (h : vcOps P τ An F ds r (x.put d v) K) : vcOps P τ An F ds (⟨some d, .assign y, ty, pos, after, gd⟩ :: r) x K := by
  subst hv
  refine step_run hg rfl ?_ h
  show dMove F x d y = _
  unfold dMove
  rw [ht]; exact putD_eq hf
theorem s_move {y : Operand} {v : V} (hg : guardD ds x gd = some true) (hm : mem d F.al = false) (hv : ev x.sl y = v) (ht : thereV v = true) (hf : fits v (F.shOf d) = true) (h : vcOps P τ An F ds r (x.put d v) K) : vcOps P τ An F ds (⟨some d, .move y, ty, pos, after, gd⟩ :: r) x K := by
  subst hv
  refine step_run hg rfl ?_ h
  show (bif mem d F.al then dAlias F x d y else dMove F x d y) = _
  rw [hm]
  unfold dMove
  rw [cond_false, ht]; exact putD_eq hf
theorem s_pick {c y z : Operand} {b : Bool} {t : T} (hg : guardD ds x gd = some true) (hc : ev x.sl c = .one (.c (.bool b))) (hv : ev x.sl (if b then y else z) = .one (.c t)) (hs : scal t = true) (hf : fits (.one (.c t)) (F.shOf d) = true) (h : vcOps P τ An F ds r (x.put d (.one (.c t))) K) : vcOps P τ An F ds (⟨some d, .pick c y z, ty, pos, after, gd⟩ :: r) x K := by
  refine step_run hg rfl ?_ h
  show dPick F x d c y z = _
  unfold dPick
  rw [hc]
  cases b with
  | true =>
    have hv : ev x.sl y = .one (.c t) := hv
    simp only [hv, hs, cond_true]; exact putD_eq hf
  | false =>
    have hv : ev x.sl z = .one (.c t) := hv
    simp only [hv, hs, cond_true]; exact putD_eq hf
theorem s_bin {op : BinOp} {t t2 : TypeId} {y z : Operand} {v1 v2 : V} {w : T} (hg : guardD ds x gd = some true) (h1 : evD x y = v1) (h2 : evD x z = v2) (hb : binV τ op t v1 v2 = some w) (hf : fits (.one (.c w)) (F.shOf d) = true) (h : vcOps P τ An F ds r (x.put d (.one (.c w))) K) : vcOps P τ An F ds (⟨some d, .binOp op t y z t2, ty, pos, after, gd⟩ :: r) x K := by
  subst h1; subst h2
  refine step_run hg rfl ?_ h
  show dRead τ F x d (.binOp op t y z t2) = _
  unfold dRead
  simp only [readV, hb]
  exact putD_eq hf
theorem s_skip {op : Op} (hg : guardD ds x gd = some false) (h : vcOps P τ An F ds r (x.put d (.tup [])) K) : vcOps P τ An F ds (⟨some d, op, ty, pos, after, gd⟩ :: r) x K := step_skip hg rfl h
end
end Go.Own

/- One tactic for a step. -/
namespace Go.Own
open Go.RowKit

theorem g_of {ds : List (Option Nat)} {x : D} {j t : Nat} {w b g : Bool} (hd : ds[j]? = some (some t)) (hv : x.sl t = .one (.c (.bool b))) (hb : (b == w) = g) : guardD ds x (some (j, w)) = some g := by
  simp only [guardD, hd, hv, hb]
theorem g_und {ds : List (Option Nat)} {x : D} {j t : Nat} {w : Bool} (hd : ds[j]? = some (some t)) (hv : x.sl t = .tup []) : guardD ds x (some (j, w)) = some false := by
  simp only [guardD, hd, hv]

end Go.Own

/- More steps by the form of the operation. -/
namespace Go.Own
open Go.RowKit

section
variable {P : Program} {τ : TypeId → Option TI} {An : FuncId → FA} {F : FA} {ds : List (Option Nat)} {r : List Oper} {x : D} {K : D → Prop} {ty : TypeId} {pos : String} {after : Array Edge} {gd : Option (Nat × Bool)} {d : Nat}

/-- A read of any form. -/
theorem s_read {op : Op} {w : T} (hg : guardD ds x gd = some true) (hc : calleeV ⟨some d, op, ty, pos, after, gd⟩ = none) (hd : dOp τ F x ⟨some d, op, ty, pos, after, gd⟩ = dRead τ F x d op) (hr : readV τ (evD x) op = some w) (hf : fits (.one (.c w)) (F.shOf d) = true) (h : vcOps P τ An F ds r (x.put d (.one (.c w))) K) :
    vcOps P τ An F ds (⟨some d, op, ty, pos, after, gd⟩ :: r) x K := by
  refine step_run hg hc ?_ h
  rw [hd]
  unfold dRead
  rw [hr]; exact putD_eq hf
theorem s_len {y : Operand} {t e : TypeId} {es : List (List T)} (hg : guardD ds x gd = some true) (ht : tk τ t = some (.sl e)) (hv : evD x y = .one (.c (.sl es))) (hf : fits (.one (.c (.int .i64 0))) (F.shOf d) = true) (h : vcOps P τ An F ds r (x.put d (.one (.c (.int .i64 es.length)))) K) :
    vcOps P τ An F ds (⟨some d, .call { callee := .builtin .len, args := #[y], argTypes := #[t] }, ty, pos, after, gd⟩ :: r) x K := by
  refine s_read hg rfl rfl ?_ (by
    revert hf
    cases F.shOf d with
    | tup ws => simp [fits]
    | one w => cases w <;> simp [fits, fitsW]
               rename_i z; cases z <;> simp [conf]) h
  show (match tk τ t, evD x y with
      | some .str, .one (.c (.str s)) => some (T.int .i64 s.length)
      | some (.sl _), .one (.c (.sl es)) => some (.int .i64 es.length)
      | _, _ => none) = _
  rw [ht, hv]
theorem s_index {t e : TypeId} {ei : TI} {v i : Operand} {es : List (List T)} {row : List T} {k : IntKind} {n : Int} (hg : guardD ds x gd = some true) (ht : tk τ t = some (.sl e)) (he : τ e = some ei) (hv : ev x.sl v = .one (.c (.sl es))) (hi : ev x.sl i = .one (.c (.int k n))) (h0 : 0 ≤ n) (hrow : es[n.toNat]? = some row) (hsz : row.length = ei.size)
    (hf : fits (.one (.cp row)) (F.shOf d) = true) (h : vcOps P τ An F ds r (x.put d (.one (.cp row))) K) : vcOps P τ An F ds (⟨some d, .indexAddr t v i, ty, pos, after, gd⟩ :: r) x K := by
  refine step_run hg rfl ?_ h
  show dIndex τ F x d t v i = _
  unfold dIndex
  simp only [ht, hi, hv, idx, he, h0, if_true, hrow, hsz, Nat.beq_refl, cond_true]
  exact putD_eq hf
theorem s_loadc {t : TypeId} {v : Operand} {ti : TI} {xs : List T} {w : V} (hg : guardD ds x gd = some true) (ht : τ t = some ti) (hv : ev x.sl v = .one (.cp xs)) (hl : loadV ti xs = some w) (hf : fits w (F.shOf d) = true) (h : vcOps P τ An F ds r (x.put d w) K) :
    vcOps P τ An F ds (⟨some d, .load t v, ty, pos, after, gd⟩ :: r) x K := by
  refine step_run hg rfl ?_ h
  show dLoad τ F x d t v (mem d F.al) = _
  unfold dLoad
  simp only [ht, hv, hl]
  exact putD_eq hf
theorem s_loado {t : TypeId} {v : Operand} {ti : TI} {ob p : Nat} {cells : List T} {w : V} (hg : guardD ds x gd = some true) (ht : τ t = some ti) (hm : mem d F.al = false) (hv : ev x.sl v = .one (.ptr ob p)) (hc : x.ob ob = some cells) (hl : loadV ti (cells.drop p) = some w) (hf : fits w (F.shOf d) = true) (h : vcOps P τ An F ds r (x.put d w) K) :
    vcOps P τ An F ds (⟨some d, .load t v, ty, pos, after, gd⟩ :: r) x K := by
  refine step_run hg rfl ?_ h
  show dLoad τ F x d t v (mem d F.al) = _
  unfold dLoad
  simp only [ht, hv, hc, hm, cond_false, hl]
  exact putD_eq hf
theorem s_append {t u e : TypeId} {ei : TI} {v y : Operand} {es1 es2 : List (List T)} (hg : guardD ds x gd = some true) (ht : tk τ t = some (.sl e)) (he : τ e = some ei) (hv : ev x.sl v = .one (.c (.sl es1))) (hy : esOf (ev x.sl y) = some es2) (hu : strOrSl τ u e = true) (hok : appOk ei es1 es2 = true)
    (hf : fits (.one (.c (.sl []))) (F.shOf d) = true) (h : vcOps P τ An F ds r (x.put d (.one (.c (.sl (es1 ++ es2))))) K) : vcOps P τ An F ds (⟨some d, .call { callee := .builtin .append, args := #[v, y], argTypes := #[t, u] }, ty, pos, after, gd⟩ :: r) x K := by
  refine step_run hg rfl ?_ h
  show dAppend τ F x d t u v y = _
  unfold dAppend
  simp only [ht, he, hv, hy, hu, hok, Bool.and_self, cond_true]
  exact putD_eq (by
    revert hf
    cases F.shOf d with
    | tup ws => simp [fits]
    | one w => cases w <;> simp [fits, fitsW]
               rename_i z; cases z <;> simp [conf])
end
end Go.Own

/- Steps on typed data, for printed walks. -/
namespace Go.Own
open Go.RowKit

/-! ### what printed functions are made of -/
def ix {α : Type} (l : List α) (i : Int) : Option α := if 0 ≤ i then l[i.toNat]? else none
def ixs (s : List UInt8) (i : Int) : Option Int := if 0 ≤ i then (s[i.toNat]?).map fun b => (b.toNat : Int) else none
def app2 {α : Type} (bytes : Nat) (a b : List α) : Option (List α) := if a.length + b.length ≤ maxLen ∧ (a.length + b.length) * bytes ≤ 140737488355328 then some (a ++ b) else none
def bnd (len : Nat) (lo hi : Option Int) : Option (Nat × Nat) := if 0 ≤ lo.getD 0 ∧ lo.getD 0 ≤ hi.getD len ∧ hi.getD len ≤ len then some ((lo.getD 0).toNat, (hi.getD len).toNat) else none
def sub {α : Type} (l : List α) (lo hi : Option Int) : Option (List α) := (bnd l.length lo hi).map fun r => (l.drop r.1).take (r.2 - r.1)
def loopN {σ ρ : Type} (body : σ → Option (σ ⊕ ρ)) : Nat → σ → Option ρ
  | 0, _ => none
  | n + 1, s => match body s with
    | none => none
    | some (.inl s') => loopN body n s'
    | some (.inr r) => some r

theorem bind_some {α β : Type} {o : Option α} {f : α → Option β} {r : β} (h : o.bind f = some r) : ∃ a, o = some a ∧ f a = some r := Option.bind_eq_some_iff.1 h

theorem put_self {x : D} {d : Nat} {v : V} (h : x.sl d = v) : x.put d v = x := D.ext (fun i => by
  simp only [D.put]
  by_cases e : i = d
  · subst e; rw [if_pos rfl, h]
  · rw [if_neg e]) (fun _ => rfl)
theorem setO_self {x : D} {o : Nat} {cs : List T} (h : x.ob o = some cs) : x.setO o cs = x := D.ext (fun _ => rfl) (fun i => by
  simp only [D.setO]
  by_cases e : i = o
  · subst e; rw [if_pos rfl, h]
  · rw [if_neg e])

section
variable {P : Program} {τ : TypeId → Option TI} {An : FuncId → FA} {F : FA} {ds : List (Option Nat)} {r : List Oper} {x : D} {K : D → Prop} {ty : TypeId} {pos : String} {after : Array Edge} {gd : Option (Nat × Bool)} {d : Nat} {Q : Ek → D → Prop}

/-! ### code -/
theorem vcOps_mono {os : List Oper} {ds : List (Option Nat)} : ∀ {x : D} {K K' : D → Prop}, (∀ x, K x → K' x) → vcOps P τ An F ds os x K → vcOps P τ An F ds os x K' := by
  induction os with
  | nil => exact fun hk h => hk _ h
  | cons o r ih =>
    intro x K K' hk h
    have h : vcOne P τ An F ds o x (fun x1 => vcOps P τ An F ds r x1 K) := h
    show vcOne P τ An F ds o x (fun x1 => vcOps P τ An F ds r x1 K')
    unfold vcOne at h ⊢
    split
    · rename_i hg
      rw [hg] at h
      simp only at h
      unfold vcRun at h ⊢
      split
      · rename_i hc
        rw [hc] at h
        obtain ⟨f, caps, ob, ob', rr, nw, h1, h2, h3, h4, h5, h6⟩ := h
        exact ⟨f, caps, ob, ob', rr, nw, h1, h2, h3, h4, h5, ih hk h6⟩
      · rename_i hc
        rw [hc] at h
        obtain ⟨x1, h1, h2⟩ := h
        exact ⟨x1, h1, ih hk h2⟩
    · rename_i hg
      rw [hg] at h
      exact ih hk h
    · rename_i hg
      rw [hg] at h
      exact h.elim
theorem vcC_mono {c : Code} : ∀ {x : D} {M N : Ek → D → Prop}, (∀ e x, M e x → N e x) → vcC P τ An F c x M → vcC P τ An F c x N := by
  induction c with
  | seq a b iha ihb =>
    intro x M N hmn h
    refine iha (fun e x he => ?_) h
    cases e with
    | n => exact ihb hmn he
    | r => exact hmn _ _ he
    | e i => exact hmn _ _ he
  | cond c a b iha ihb =>
    intro x M N hmn h
    obtain ⟨t, h0, h1, h2⟩ := h
    exact ⟨t, h0, fun e => iha hmn (h1 e), fun e => ihb hmn (h2 e)⟩
  | block id c ih => exact fun hmn h => ih (fun e x he => hmn _ _ he) h
  | loop c _ => exact fun hmn ⟨e, x', h1, h2⟩ => ⟨e, x', h1, hmn _ _ h2⟩
  | region id ops dr =>
    intro x M N hmn h
    exact vcOps_mono (fun x hx => hmn _ _ hx) h
  | skip => exact fun hmn h => hmn _ _ h
  | label => exact fun hmn h => hmn _ _ h
  | exit => exact fun hmn h => hmn _ _ h
  | ret => exact fun hmn h => hmn _ _ h
  | _ => exact fun _ h => h.elim

theorem c_reg {id : Nat} {ops : List Oper} {dr : Bool} {b : Code} (M : D → Prop) (h1 : vcOps P τ An F (ops.map (·.dst)) ops x M) (h2 : ∀ x, M x → vcC P τ An F b x Q) : vcC P τ An F (.seq (.region id ops.toArray dr) b) x Q := by
  show vcOps P τ An F (ops.map (·.dst)) ops x _
  exact vcOps_mono h2 h1
theorem c_regl {id : Nat} {ops : List Oper} {dr : Bool} (M : D → Prop) (h1 : vcOps P τ An F (ops.map (·.dst)) ops x M) (h2 : ∀ x, M x → Q .n x) : vcC P τ An F (.region id ops.toArray dr) x Q := by
  show vcOps P τ An F (ops.map (·.dst)) ops x _
  exact vcOps_mono h2 h1
theorem c_mid {a b : Code} (M : Ek → D → Prop) (h1 : vcC P τ An F a x M) (h2 : ∀ e x, M e x → thenD (fun x1 => vcC P τ An F b x1 Q) Q e x) : vcC P τ An F (.seq a b) x Q := vcC_mono (c := a) h2 h1
theorem c_midl {a : Code} (M : Ek → D → Prop) (h1 : vcC P τ An F a x M) (h2 : ∀ e x, M e x → Q e x) : vcC P τ An F a x Q := vcC_mono h2 h1
theorem c_cond' {c : Operand} {a b : Code} {t : Bool} (hc : ev x.sl c = .one (.c (.bool t))) (h : vcC P τ An F (bif t then a else b) x Q) : vcC P τ An F (.cond c a b) x Q :=
  ⟨t, hc, fun e => by subst e; exact h, fun e => by subst e; exact h⟩
theorem c_skip (h : Q .n x) : vcC P τ An F .skip x Q := h
theorem c_exit {i : Nat} (h : Q (.e i) x) : vcC P τ An F (.exit i) x Q := h
theorem c_ret (h : Q .r x) : vcC P τ An F .ret x Q := h
theorem c_block {id : Nat} {c : Code} (h : vcC P τ An F c x (blkD id Q)) : vcC P τ An F (.block id c) x Q := h

/-- A loop, told by a function with fuel. -/
theorem Wd.loopN {σ ρ : Type} {body : σ → Option (σ ⊕ ρ)} {c : Code} (Rel : σ → D → Prop) (Fin : ρ → Ek → D → Prop)
    (hb : ∀ s o x, Rel s x → body s = some o → vcC P τ An F c x (fun e x' => match o with | .inl s' => e = .n ∧ Rel s' x' | .inr r => e ≠ .n ∧ Fin r e x')) :
    ∀ {n : Nat} {s : σ} {q : ρ} {x : D}, loopN body n s = some q → Rel s x → (∀ e x', Fin q e x' → Q e x') → vcC P τ An F (.loop c) x Q := by
  intro n
  induction n with
  | zero => intro s q x h; cases h
  | succ n ih =>
    intro s q x h hr hq
    unfold Own.loopN at h
    cases hs : body s with
    | none => rw [hs] at h; cases h
    | some o =>
      rw [hs] at h
      obtain ⟨e, x1, h1, h2⟩ := vcC_ok (hb s o x hr hs)
      cases o with
      | inl s' =>
        obtain ⟨rfl, h2⟩ := h2
        obtain ⟨e2, x2, q1, q2⟩ := ih h h2 hq
        exact ⟨e2, x2, .loopN h1 q1, q2⟩
      | inr r =>
        cases h
        exact ⟨e, x1, .loopX h1 h2.1, hq _ _ h2.2⟩

/-! ### operations -/
theorem sk {op : Op} {j : Nat} {w : Bool} (hg : guardD ds x (some (j, w)) = some false) (h : vcOps P τ An F ds r (x.put d (.tup [])) K) : vcOps P τ An F ds (⟨some d, op, ty, pos, after, some (j, w)⟩ :: r) x K := step_skip hg rfl h
theorem mv {y : Operand} {v : V} (hg : guardD ds x gd = some true) (hv : ev x.sl y = v) (hq : (!(mem d F.al) && thereV v && fits v (F.shOf d)) = true) (h : vcOps P τ An F ds r (x.put d v) K) : vcOps P τ An F ds (⟨some d, .move y, ty, pos, after, gd⟩ :: r) x K := by
  simp only [Bool.and_eq_true, Bool.not_eq_true'] at hq
  exact s_move hg hq.1.1 hv hq.1.2 hq.2 h
theorem asg {y : Operand} {v : V} (hg : guardD ds x gd = some true) (hv : ev x.sl y = v) (hq : (thereV v && fits v (F.shOf d)) = true) (h : vcOps P τ An F ds r (x.put d v) K) : vcOps P τ An F ds (⟨some d, .assign y, ty, pos, after, gd⟩ :: r) x K := by
  simp only [Bool.and_eq_true] at hq
  exact s_assign hg hv hq.1 hq.2 h
theorem pk {c y z : Operand} {b : Bool} {t : T} (hg : guardD ds x gd = some true) (hc : ev x.sl c = .one (.c (.bool b))) (hv : ev x.sl (bif b then y else z) = .one (.c t)) (hq : (scal t && fits (.one (.c t)) (F.shOf d)) = true) (h : vcOps P τ An F ds r (x.put d (.one (.c t))) K) : vcOps P τ An F ds (⟨some d, .pick c y z, ty, pos, after, gd⟩ :: r) x K := by
  simp only [Bool.and_eq_true] at hq
  refine s_pick hg hc ?_ hq.1 hq.2 h
  cases b <;> exact hv
theorem rd {op : Op} (w : T) (hg : guardD ds x gd = some true) (hc : calleeV ⟨some d, op, ty, pos, after, gd⟩ = none) (hd : dOp τ F x ⟨some d, op, ty, pos, after, gd⟩ = dRead τ F x d op) (hr : readV τ (evD x) op = some w) (hf : fits (.one (.c w)) (F.shOf d) = true) (h : vcOps P τ An F ds r (x.put d (.one (.c w))) K) :
    vcOps P τ An F ds (⟨some d, op, ty, pos, after, gd⟩ :: r) x K := s_read hg hc hd hr hf h
theorem ln {α : Type} {L : List α} {f : α → List T} {y : Operand} {t e : TypeId} (hg : guardD ds x gd = some true) (ht : tk τ t = some (.sl e)) (hv : evD x y = .one (.c (.sl (L.map f)))) (hf : fits (.one (.c (.int .i64 0))) (F.shOf d) = true) (h : vcOps P τ An F ds r (x.put d (.one (.c (.int .i64 L.length)))) K) :
    vcOps P τ An F ds (⟨some d, .call { callee := .builtin .len, args := #[y], argTypes := #[t] }, ty, pos, after, gd⟩ :: r) x K := s_len hg ht hv hf (by simpa using h)
theorem ixa {α : Type} {L : List α} {f : α → List T} {a : α} {t e : TypeId} {ei : TI} {v i : Operand} {row : List T} {k : IntKind} {n : Int} (hix : ix L n = some a) (hg : guardD ds x gd = some true) (ht : tk τ t = some (.sl e)) (he : τ e = some ei) (hv : ev x.sl v = .one (.c (.sl (L.map f)))) (hi : ev x.sl i = .one (.c (.int k n))) (hrow : f a = row) (hsz : row.length = ei.size)
    (hf : fits (.one (.cp row)) (F.shOf d) = true) (h : vcOps P τ An F ds r (x.put d (.one (.cp row))) K) : vcOps P τ An F ds (⟨some d, .indexAddr t v i, ty, pos, after, gd⟩ :: r) x K := by
  unfold ix at hix
  split at hix <;> try cases hix
  rename_i h0
  exact s_index hg ht he hv hi h0 (by rw [List.getElem?_map, hix, Option.map_some, hrow]) hsz hf h
theorem ldc {t : TypeId} {v : Operand} {ti : TI} {xs : List T} {w : V} (hg : guardD ds x gd = some true) (ht : τ t = some ti) (hv : ev x.sl v = .one (.cp xs)) (hl : loadV ti xs = some w) (hf : fits w (F.shOf d) = true) (h : vcOps P τ An F ds r (x.put d w) K) :
    vcOps P τ An F ds (⟨some d, .load t v, ty, pos, after, gd⟩ :: r) x K := s_loadc hg ht hv hl hf h
theorem ldo {t : TypeId} {v : Operand} {ti : TI} {ob p : Nat} {cells : List T} {w : V} (hg : guardD ds x gd = some true) (ht : τ t = some ti) (hm : mem d F.al = false) (hv : ev x.sl v = .one (.ptr ob p)) (hc : x.ob ob = some cells) (hl : loadV ti (cells.drop p) = some w) (hf : fits w (F.shOf d) = true) (h : vcOps P τ An F ds r (x.put d w) K) :
    vcOps P τ An F ds (⟨some d, .load t v, ty, pos, after, gd⟩ :: r) x K := s_loado hg ht hm hv hc hl hf h
theorem sto {t : TypeId} {v y : Operand} {ti : TI} {ob p : Nat} {cells xs cs : List T} (hg : guardD ds x gd = some true) (ht : τ t = some ti) (hv : ev x.sl v = .one (.ptr ob p)) (hy : cellsOfV (ev x.sl y) = some xs) (hc : x.ob ob = some cells) (hq : (Nat.beq xs.length ti.size && Nat.ble (p + xs.length) cells.length && confs cs (F.obOf ob)) = true) (hcs : cells.take p ++ xs ++ cells.drop (p + xs.length) = cs) (h : vcOps P τ An F ds r (x.setO ob cs) K) :
    vcOps P τ An F ds (⟨none, .store t v y, ty, pos, after, gd⟩ :: r) x K := by
  subst hcs
  refine step_run hg rfl ?_ h
  show (match τ t, ev x.sl v, cellsOfV (ev x.sl y) with
      | some i, .one (.ptr ob p), some xs => dStoreO F x i ob p xs
      | some i, .one (.pp l p n j), some xs => dStoreP F x i l p n j xs
      | _, _, _ => none) = _
  rw [ht, hv, hy]
  simp only [dStoreO, hc, hq, cond_true]
/-- Any other. -/
theorem gen {o : Oper} {x1 : D} (hg : guardD ds x o.guard = some true) (hc : calleeV o = none) (h1 : dOp τ F x o = some x1) (h : vcOps P τ An F ds r x1 K) : vcOps P τ An F ds (o :: r) x K := step_run hg hc h1 h
theorem lit {α : Type} {L : List α} {f : α → List T} {t e : TypeId} {n : Nat} {parts : Array (Nat × Operand)} {ei : TI} {es : List (List T)} (hg : guardD ds x gd = some true) (ht : tk τ t = some (.sl e)) (he : τ e = some ei) (hes : cellsAll ((parts.toList.map (·.2)).map (ev x.sl)) = some es) (hL : L.map f = es)
    (hq : (partsOk 0 parts.toList && Nat.beq n parts.toList.length && es.all (fun e => Nat.beq e.length ei.size) && Nat.ble (n * ei.size) 16777216) = true) (hf : fits (.one (.c (.sl []))) (F.shOf d) = true) (h : vcOps P τ An F ds r (x.put d (.one (.c (.sl (L.map f))))) K) :
    vcOps P τ An F ds (⟨some d, .buildSlice t n parts, ty, pos, after, gd⟩ :: r) x K := by
  rw [hL] at h
  refine step_run hg rfl ?_ h
  show dLit τ F x d t n parts = _
  unfold dLit
  simp only [ht, he, hes, hq, cond_true]
  exact putD_eq (by
    revert hf
    cases F.shOf d with
    | tup ws => simp [fits]
    | one w => cases w <;> simp [fits, fitsW]
               rename_i z; cases z <;> simp [conf])
theorem apd {α : Type} {L1 L2 L3 : List α} {f : α → List T} {b : Nat} {t u e : TypeId} {ei : TI} {v y : Operand} {es2 : List (List T)} (hap : app2 b L1 L2 = some L3) (hg : guardD ds x gd = some true) (ht : tk τ t = some (.sl e)) (he : τ e = some ei) (hb : ei.bytes = b) (hv : ev x.sl v = .one (.c (.sl (L1.map f)))) (hy : esOf (ev x.sl y) = some es2) (hL : es2 = L2.map f) (hu : strOrSl τ u e = true) (hsz : ∀ a, (f a).length = ei.size) (hcf : ∀ a, confs (f a) ei.zero = true)
    (hf : fits (.one (.c (.sl []))) (F.shOf d) = true) (h : vcOps P τ An F ds r (x.put d (.one (.c (.sl (L3.map f))))) K) : vcOps P τ An F ds (⟨some d, .call { callee := .builtin .append, args := #[v, y], argTypes := #[t, u] }, ty, pos, after, gd⟩ :: r) x K := by
  subst hL; subst hb
  unfold app2 at hap
  split at hap <;> try cases hap
  rename_i hle
  refine s_append hg ht he hv hy hu ?_ hf (by simpa using h)
  simp only [appOk, Bool.and_eq_true, List.all_eq_true, List.mem_map, List.length_map]
  exact ⟨⟨⟨fun e he => by obtain ⟨a, _, rfl⟩ := he; rw [hsz]; exact Nat.beq_refl _, fun e he => by obtain ⟨a, _, rfl⟩ := he; exact hcf a⟩, Nat.ble_eq_true_of_le hle.1⟩, Nat.ble_eq_true_of_le hle.2⟩
theorem mks {α : Type} {z : α} {f : α → List T} {t e : TypeId} {ei : TI} {v y : Operand} {n : Int} {k k' : IntKind} (hn : 0 ≤ n ∧ n ≤ maxLen ∧ ei.bytes * n ≤ 281474976710656) (hg : guardD ds x gd = some true) (ht : tk τ t = some (.sl e)) (he : τ e = some ei) (hv : ev x.sl v = .one (.c (.int k n))) (hy : ev x.sl y = .one (.c (.int k' n))) (hz : f z = ei.zero) (hf : fits (.one (.c (.sl []))) (F.shOf d) = true) (h : vcOps P τ An F ds r (x.put d (.one (.c (.sl ((List.replicate n.toNat z).map f))))) K) :
    vcOps P τ An F ds (⟨some d, .makeSlice t v y, ty, pos, after, gd⟩ :: r) x K := by
  refine step_run hg rfl ?_ h
  show dMake τ F x d t v y = _
  unfold dMake
  simp only [ht, he, hv, hy]
  rw [if_pos ⟨trivial, hn⟩, List.map_replicate, hz]
  exact putD_eq (by
    revert hf
    cases F.shOf d with
    | tup ws => simp [fits]
    | one w => cases w <;> simp [fits, fitsW]
               rename_i z; cases z <;> simp [conf])

/-! ### calls -/
theorem call_put {d : Nat} {y : D} {v : V} (h : (y.sl 0).to (outN [] none) = v) : x.call (some d) none [] y = x.put d v := D.ext (fun i => by
  simp only [D.call, D.put, Option.some.injEq, h]
  by_cases e : d = i
  · rw [if_pos e, if_pos e.symm]
  · rw [if_neg e, if_neg (fun h => e h.symm)]) (fun o => by simp [D.call, innN])
theorem call_put1 {d o : Nat} {y : D} {v : V} {cs : List T} (h : (y.sl 0).to (outN [o] none) = v) (h2 : y.ob par = some cs) : x.call (some d) none [o] y = (x.put d v).setO o cs := D.ext (fun i => by
  simp only [D.call, D.put, D.setO, Option.some.injEq, h]
  by_cases e : d = i
  · rw [if_pos e, if_pos e.symm]
  · rw [if_neg e, if_neg (fun h => e h.symm)]) (fun i => by
  simp only [D.call, D.put, D.setO, innN, List.mem_singleton]
  by_cases e : i = o
  · subst e; simp [List.idxOf, List.findIdx, List.findIdx.go, h2]
  · simp [e])
theorem call_putn {d : Nat} {y : D} {cs : List T} (h : (y.sl 0).to (outN [] (some d)) = .one (.ptr d 0)) (h2 : y.ob 0 = some cs) : x.call (some d) (some d) [] y = (x.put d (.one (.ptr d 0))).setO d cs := D.ext (fun i => by
  simp only [D.call, D.put, D.setO, Option.some.injEq, h]
  by_cases e : d = i
  · rw [if_pos e, if_pos e.symm]
  · rw [if_neg e, if_neg (fun h => e h.symm)]) (fun i => by
  simp only [D.call, D.put, D.setO, innN]
  by_cases e : i = d
  · subst e; simp [h2]
  · simp [e, Ne.symm e])

/-- A call that is handed no objects. -/
theorem cl0 {caps : List (Nat × Nat)} {c : Call} {v : Operand} {f : FuncId} {vs : List V} {rr v' : V} (hB : Big P τ An (.fn f vs [] rr none [] none)) (hg : guardD ds x gd = some true) (hc : calleeV ⟨some d, .call c, ty, pos, after, gd⟩ = some (c, v)) (hx : ev x.sl v = .one (.fn f caps)) (hth : c.args.toList.all (fun v => thereV (ev x.sl v)) = true) (hos : osOf F c v = []) (hnd : ndOf F (some d) = none)
    (hvs : inV x c caps [] = vs) (hv' : rr.to (outN [] none) = v') (hf : fits v' (F.shOf d) = true) (h : vcOps P τ An F ds r (x.put d v') K) : vcOps P τ An F ds (⟨some d, .call c, ty, pos, after, gd⟩ :: r) x K := by
  have hcp : x.call (some d) none [] (DR rr none [] none) = x.put d v' := call_put hv'
  refine step_call (x1 := x.put d v') (ob := []) hg hc hx hth (by rw [hos]; rfl) (by rw [hos]; exact hvs) hB ?_ ?_ h
  · show x.call (some d) (ndOf F (some d)) (osOf F c v) _ = _
    rw [hos, hnd]; exact hcp
  · show callShapes F (x.put d v') (some d) (ndOf F (some d)) (osOf F c v) = true
    rw [hos, hnd]
    simp [callShapes, names, D.put, hf]
/-- A call that is handed one object. -/
theorem cl1 {caps : List (Nat × Nat)} {c : Call} {v : Operand} {f : FuncId} {vs : List V} {rr v' : V} {o : Nat} {cs cs' : List T} (hB : Big P τ An (.fn f vs [cs] rr none [cs'] none)) (hg : guardD ds x gd = some true) (hc : calleeV ⟨some d, .call c, ty, pos, after, gd⟩ = some (c, v)) (hx : ev x.sl v = .one (.fn f caps)) (hth : c.args.toList.all (fun v => thereV (ev x.sl v)) = true) (hos : osOf F c v = [o]) (hnd : ndOf F (some d) = none)
    (hob : x.ob o = some cs) (hvs : inV x c caps [o] = vs) (hv' : rr.to (outN [o] none) = v') (hf : (fits v' (F.shOf d) && confs cs' (F.obOf o)) = true) (h : vcOps P τ An F ds r ((x.put d v').setO o cs') K) : vcOps P τ An F ds (⟨some d, .call c, ty, pos, after, gd⟩ :: r) x K := by
  simp only [Bool.and_eq_true] at hf
  have hcp : x.call (some d) none [o] (DR rr none [cs'] none) = (x.put d v').setO o cs' := call_put1 hv' (by simp [DR])
  refine step_call (x1 := (x.put d v').setO o cs') (ob := [cs]) hg hc hx hth (by rw [hos]; simp [hob]) (by rw [hos]; exact hvs) hB ?_ ?_ h
  · show x.call (some d) (ndOf F (some d)) (osOf F c v) _ = _
    rw [hos, hnd]; exact hcp
  · show callShapes F ((x.put d v').setO o cs') (some d) (ndOf F (some d)) (osOf F c v) = true
    rw [hos, hnd]
    simp [callShapes, names, D.put, D.setO, hf.1, hf.2]
/-- A call that makes an object. -/
theorem cln {caps : List (Nat × Nat)} {c : Call} {v : Operand} {f : FuncId} {vs : List V} {rr : V} {cs : List T} (hB : Big P τ An (.fn f vs [] rr none [] (some cs))) (hg : guardD ds x gd = some true) (hc : calleeV ⟨some d, .call c, ty, pos, after, gd⟩ = some (c, v)) (hx : ev x.sl v = .one (.fn f caps)) (hth : c.args.toList.all (fun v => thereV (ev x.sl v)) = true) (hos : osOf F c v = []) (hnd : ndOf F (some d) = some d)
    (hvs : inV x c caps [] = vs) (hv' : rr.to (outN [] (some d)) = .one (.ptr d 0)) (hf : (fits (.one (.ptr d 0)) (F.shOf d) && confs cs (F.obOf d)) = true) (h : vcOps P τ An F ds r ((x.put d (.one (.ptr d 0))).setO d cs) K) : vcOps P τ An F ds (⟨some d, .call c, ty, pos, after, gd⟩ :: r) x K := by
  simp only [Bool.and_eq_true] at hf
  have hcp : x.call (some d) (some d) [] (DR rr none [] (some cs)) = (x.put d (.one (.ptr d 0))).setO d cs := call_putn hv' (by simp [DR, par])
  refine step_call (x1 := (x.put d (.one (.ptr d 0))).setO d cs) (ob := []) hg hc hx hth (by rw [hos]; rfl) (by rw [hos]; exact hvs) hB ?_ ?_ h
  · show x.call (some d) (ndOf F (some d)) (osOf F c v) _ = _
    rw [hos, hnd]; exact hcp
  · show callShapes F ((x.put d (.one (.ptr d 0))).setO d cs) (some d) (ndOf F (some d)) (osOf F c v) = true
    rw [hos, hnd]
    simp [callShapes, names, D.put, D.setO, hf.1, hf.2]
end
end Go.Own

/- More steps for printed walks. -/
namespace Go.Own
open Go.RowKit

def ck (b : Bool) : Option Unit := bif b then some () else none
theorem ck_of {b : Bool} {u : Unit} (h : ck b = some u) : b = true := by
  cases b with
  | true => rfl
  | false => cases h
theorem bif_cases {ρ : Type} {e : Bool} {A B : Option ρ} {r : ρ} {g : Prop} (h : (bif e then A else B) = some r) (h1 : e = true → A = some r → g) (h0 : e = false → B = some r → g) : g := by
  cases e with
  | true => exact h1 rfl h
  | false => exact h0 rfl h

section
variable {P : Program} {τ : TypeId → Option TI} {An : FuncId → FA} {F : FA} {ds : List (Option Nat)} {r : List Oper} {x : D} {K : D → Prop} {ty : TypeId} {pos : String} {after : Array Edge} {gd : Option (Nat × Bool)} {d : Nat} {Q : Ek → D → Prop}

theorem g_ofc {j t : Nat} {w b g e : Bool} (hd : ds[j]? = some (some t)) (hv : x.sl t = .one (.c (.bool e))) (hc : e = b) (hb : (b == w) = g) : guardD ds x (some (j, w)) = some g := by
  subst hc
  exact g_of hd hv hb
theorem c_ct {c : Operand} {a b : Code} (hc : ev x.sl c = .one (.c (.bool true))) (h : vcC P τ An F a x Q) : vcC P τ An F (.cond c a b) x Q := ⟨true, hc, fun _ => h, nofun⟩
theorem c_cf {c : Operand} {a b : Code} (hc : ev x.sl c = .one (.c (.bool false))) (h : vcC P τ An F b x Q) : vcC P τ An F (.cond c a b) x Q := ⟨false, hc, nofun, fun _ => h⟩
theorem pkc {c y z : Operand} {b e : Bool} {t : T} (hg : guardD ds x gd = some true) (hc : ev x.sl c = .one (.c (.bool e))) (he : e = b) (hv : ev x.sl (bif b then y else z) = .one (.c t)) (hq : (scal t && fits (.one (.c t)) (F.shOf d)) = true) (h : vcOps P τ An F ds r (x.put d (.one (.c t))) K) : vcOps P τ An F ds (⟨some d, .pick c y z, ty, pos, after, gd⟩ :: r) x K := by
  subst he
  exact pk hg hc hv hq h

theorem rd_quo {t u : TypeId} {y z : Operand} {k : IntKind} {a b : Int} (h : (!decide (b = 0)) = true) (h1 : evD x y = .one (.c (.int k a))) (h2 : evD x z = .one (.c (.int k b))) : readV τ (evD x) (.binOp .quo t y z u) = some (.int k (k.wrap (a.tdiv b))) := by
  have h : ¬ b = 0 := by simpa using h
  simp [readV, h1, h2, binV, intOp, h]
theorem rd_rem {t u : TypeId} {y z : Operand} {k : IntKind} {a b : Int} (h : (!decide (b = 0)) = true) (h1 : evD x y = .one (.c (.int k a))) (h2 : evD x z = .one (.c (.int k b))) : readV τ (evD x) (.binOp .rem t y z u) = some (.int k (a.tmod b)) := by
  have h : ¬ b = 0 := by simpa using h
  simp [readV, h1, h2, binV, intOp, h]
theorem rd_cat {t u : TypeId} {y z : Operand} {a b : List UInt8} (h : decide (a.length + b.length ≤ 9223372036854775807) = true) (h1 : evD x y = .one (.c (.str a))) (h2 : evD x z = .one (.c (.str b))) : readV τ (evD x) (.binOp .add t y z u) = some (.str (a ++ b)) := by
  have h := of_decide_eq_true h
  simp [readV, h1, h2, binV, strOp, h]
theorem rd_ixs {t : TypeId} {y z : Operand} {s : List UInt8} {k : IntKind} {n b : Int} (h : ixs s n = some b) (ht : tk τ t = some .str) (h1 : evD x y = .one (.c (.str s))) (h2 : evD x z = .one (.c (.int k n))) : readV τ (evD x) (.index t y z) = some (.int .u8 b) := by
  unfold ixs at h
  split at h <;> try cases h
  rename_i h0
  obtain ⟨c, h3, rfl⟩ := Option.map_eq_some_iff.1 h
  simp [readV, ht, h1, h2, h0, h3]

/-- A bound that is there or not. -/
inductive Bd (x : D) : Option Operand → Option Int → Prop
  | none : Bd x none none
  | some {y : Operand} {k : IntKind} {n : Int} (h : evD x y = .one (.c (.int k n))) : Bd x (some y) (some n)
theorem bd_val {len : Nat} {lo hi : Option Operand} {l h : Option Int} {q : Nat × Nat} (hl : Bd x lo l) (hh : Bd x hi h) (hb : bnd len l h = some q) : boundsV (evD x) len lo hi none = some q := by
  unfold bnd at hb
  unfold boundsV
  cases hl with
  | none =>
    cases hh with
    | none => simpa using hb
    | some h1 => simpa [h1, intOfV] using hb
  | some h0 =>
    cases hh with
    | none => simpa [h0, intOfV] using hb
    | some h1 => simpa [h0, h1, intOfV] using hb
theorem rd_subs {t : TypeId} {y : Operand} {lo hi : Option Operand} {l h : Option Int} {s s' : List UInt8} (hb : sub s l h = some s') (ht : tk τ t = some .str) (h1 : evD x y = .one (.c (.str s))) (hl : Bd x lo l) (hh : Bd x hi h) : readV τ (evD x) (.slice t y lo hi none) = some (.str s') := by
  obtain ⟨q, h2, rfl⟩ := Option.map_eq_some_iff.1 hb
  simp [readV, ht, h1, bd_val hl hh h2]
theorem rd_sub {α : Type} {f : α → List T} {t e : TypeId} {ei : TI} {y : Operand} {lo hi : Option Operand} {l h : Option Int} {s s' : List α} (hb : sub s l h = some s') (ht : tk τ t = some (.sl e)) (he : τ e = some ei) (h1 : evD x y = .one (.c (.sl (s.map f)))) (hl : Bd x lo l) (hh : Bd x hi h) (hsz : ∀ a, (f a).length = ei.size) : readV τ (evD x) (.slice t y lo hi none) = some (.sl (s'.map f)) := by
  obtain ⟨q, h2, rfl⟩ := Option.map_eq_some_iff.1 hb
  have h3 : (s.map f).all (fun x => x.length == ei.size) = true := by
    rw [List.all_eq_true]
    intro e he
    obtain ⟨a, _, rfl⟩ := List.mem_map.1 he
    simpa using hsz a
  have h4 : boundsV (evD x) (s.map f).length lo hi none = some q := by rw [List.length_map]; exact bd_val hl hh h2
  simp only [readV, ht, h1, he, Option.bind_some, h3, if_true, h4, Option.map_some, List.map_take, List.map_drop]

def isP : V → Bool
  | .one (.ptr _ _) => true
  | .one (.cp _) => true
  | .one (.fn _ _) => true
  | .one (.pp _ _ _ _) => true
  | _ => false
theorem nlc {v : Operand} {w : V} (hg : guardD ds x gd = some true) (hv : ev x.sl v = w) (hp : isP w = true) (hf : fits w (F.shOf d) = true) (h : vcOps P τ An F ds r (x.put d w) K) : vcOps P τ An F ds (⟨some d, .nilCheck v, ty, pos, after, gd⟩ :: r) x K := by
  refine step_run hg rfl ?_ h
  show dNil F x d v = _
  unfold dNil
  rw [hv]
  unfold isP at hp
  split at hp <;> first | exact putD_eq hf | cases hp
theorem fld {s : TypeId} {v : Operand} {f : Nat} {fs : List (Nat × Nat × Bool)} {q : Nat × Nat × Bool} {w u : V} (hg : guardD ds x gd = some true) (ht : tk τ s = some (.struct fs)) (hq : fs[f]? = some q) (hv : ev x.sl v = w) (hw : fieldV q.1 w = some u) (hf : fits u (F.shOf d) = true) (h : vcOps P τ An F ds r (x.put d u) K) : vcOps P τ An F ds (⟨some d, .fieldAddr s v f, ty, pos, after, gd⟩ :: r) x K := by
  refine step_run hg rfl ?_ h
  show dField τ F x d s v f = _
  unfold dField
  simp only [ht, hq, hv, hw]
  exact putD_eq hf
theorem alc {t : TypeId} {i : TI} {cs : List T} (hg : guardD ds x gd = some true) (ht : τ t = some i) (hz : i.zero = cs) (hc : confs cs (F.obOf d) = true) (h : vcOps P τ An F ds r ((x.put d (.one (.ptr d 0))).setO d cs) K) : vcOps P τ An F ds (⟨some d, .alloc t, ty, pos, after, gd⟩ :: r) x K := by
  subst hz
  refine step_run hg rfl ?_ h
  show dAlloc τ F x d t = _
  unfold dAlloc
  simp only [ht, hc, cond_true]
theorem bx {e : TypeId} {t : Nat} {xs : List T} {w : V} (hg : guardD ds x gd = some true) (hv : x.sl t = w) (hw : cellsOfV w = some xs) (hc : confs xs (F.obOf d) = true) (h : vcOps P τ An F ds r ((x.put d (.one (.ptr d 0))).setO d xs) K) : vcOps P τ An F ds (⟨some d, .box e (.tmp t), ty, pos, after, gd⟩ :: r) x K := by
  refine step_run hg rfl ?_ h
  show dBox F x d (.tmp t) = _
  unfold dBox
  simp only [hv, hw, hc, cond_true]
theorem bld {t : TypeId} {ti : TI} {fs : List (Nat × Nat × Bool)} {parts : Array (Nat × Operand)} {rs : List T} (hg : guardD ds x gd = some true) (ht : τ t = some ti) (hk : ti.kind = .struct fs) (hb : buildT fs ti.zero (parts.toList.map fun p => (p.1, ev x.sl p.2)) = some rs) (hf : fits (.one (.ag rs)) (F.shOf d) = true) (h : vcOps P τ An F ds r (x.put d (.one (.ag rs))) K) : vcOps P τ An F ds (⟨some d, .build t parts, ty, pos, after, gd⟩ :: r) x K := by
  refine step_run hg rfl ?_ h
  show dBuild τ F x d t parts = _
  unfold dBuild
  simp only [ht, hk, hb]
  exact putD_eq hf
theorem ext {k t : Nat} {ws : List W} {w : W} (hg : guardD ds x gd = some true) (hv : x.sl t = .tup ws) (hw : ws[k]? = some w) (hf : fits (.one w) (F.shOf d) = true) (h : vcOps P τ An F ds r (x.put d (.one w)) K) : vcOps P τ An F ds (⟨some d, .extract (.tmp t) k, ty, pos, after, gd⟩ :: r) x K := by
  refine step_run hg rfl ?_ h
  show dExtract F x d k (.tmp t) = _
  unfold dExtract
  simp only [hv, hw]
  exact putD_eq hf
theorem mkf {f : FuncId} {caps : Array Operand} {cs : List (Nat × Nat)} (hg : guardD ds x gd = some true) (hc : capsOf (caps.toList.map (ev x.sl)) = some cs) (hf : fits (.one (.fn f cs)) (F.shOf d) = true) (h : vcOps P τ An F ds r (x.put d (.one (.fn f cs))) K) : vcOps P τ An F ds (⟨some d, .makeFunc (.func f) #[] caps, ty, pos, after, gd⟩ :: r) x K := by
  refine step_run hg rfl ?_ h
  show (bif (#[] : Array Operand).isEmpty then dFunc F x d f caps else none) = _
  show dFunc F x d f caps = _
  unfold dFunc
  simp only [hc]
  exact putD_eq hf
end
end Go.Own

/- Laws of loops and of what printed functions are made of. -/
namespace Go.Own
open Go.RowKit

/-- A loop that keeps I and ends, as a measure falls. -/
theorem loopN_of {σ ρ : Type} {body : σ → Option (σ ⊕ ρ)} (I : Nat → σ → Prop) (J : ρ → Prop) (h : ∀ m s, I m s → (∃ s' m', body s = some (.inl s') ∧ m' < m ∧ I m' s') ∨ ∃ r, body s = some (.inr r) ∧ J r) :
    ∀ {n m : Nat} {s : σ}, I m s → m < n → ∃ r, loopN body n s = some r ∧ J r
  | 0, m, s, _, hm => absurd hm (Nat.not_lt_zero _)
  | n + 1, m, s, hI, hm => by
    unfold loopN
    rcases h m s hI with ⟨s', m', h1, h2, h3⟩ | ⟨r, h1, h2⟩
    · rw [h1]
      exact loopN_of I J h h3 (by omega)
    · rw [h1]; exact ⟨r, rfl, h2⟩

theorem ix_of {α : Type} {l : List α} {i : Int} (h0 : 0 ≤ i) (h1 : i < l.length) : ∃ a, ix l i = some a ∧ a ∈ l := by
  have h : i.toNat < l.length := by omega
  exact ⟨l[i.toNat], by unfold ix; rw [if_pos h0, List.getElem?_eq_getElem h], List.getElem_mem h⟩

theorem wrap_i64 {n : Int} (h0 : -9223372036854775808 ≤ n) (h1 : n ≤ 9223372036854775807) : IntKind.wrap .i64 n = n := by
  rw [IntKind.wrap_i64]; omega

theorem bits_and_le (x : Int) (m : Nat) (hm : m < 2 ^ 62) : 0 ≤ bits .and .i64 x m ∧ bits .and .i64 x m ≤ m := by
  have h : (BitVec.ofInt 64 x &&& BitVec.ofInt 64 (m : Int)).toNat ≤ m := by
    rw [BitVec.toNat_and]
    refine Nat.le_trans Nat.and_le_right ?_
    have : (BitVec.ofInt 64 (m : Int)).toNat = m := by
      simp only [BitVec.ofInt_natCast, BitVec.toNat_ofNat]
      exact Nat.mod_eq_of_lt (by omega)
    omega
  have e : bits .and .i64 x m = IntKind.i64.wrap ((BitVec.ofInt 64 x &&& BitVec.ofInt 64 (m : Int)).toNat : Int) := rfl
  rw [e, IntKind.wrap_i64]
  generalize (BitVec.ofInt 64 x &&& BitVec.ofInt 64 (m : Int)).toNat = k at h
  omega

theorem cell_lt {w : World} {a : Addr} {v : Value} (h : w.cell? a = some v) : a.block < w.heap.size ∧ a.spot = none := by
  unfold World.cell? at h
  split at h
  · rename_i c _ _ hc
    split at h
    · cases h
    · rename_i hs
      refine ⟨(Array.getElem?_eq_some_iff.1 hc).1, ?_⟩
      cases hsp : a.spot with
      | none => rfl
      | some x => rw [hsp] at hs; simp at hs
  · cases h

/-- What is read of a slice of integers that came in. -/
theorem rd_ints {w : World} {k : IntKind} {x : Addr} {len cap : Nat} {zs : List Int} (hl : len ≤ cap) (hz : zs.length = cap) (hc : ∀ i, i < zs.length → w.cell? (x.add i) = some (.int k (zs.getD i 0))) :
    Rd (frz G.old w) w (.slice (some x) len cap) (.sl ((zs.take len).map fun n => [.int k n])) := by
  cases len with
  | zero => simp only [List.take_zero, List.map_nil]; exact .nil _ _
  | succ n =>
    have h0 := hc 0 (by omega)
    obtain ⟨hb, hs⟩ := cell_lt h0
    have e0 : x.add 0 = x := by simp [Addr.add]
    rw [e0] at hb hs
    obtain ⟨b, off, sp⟩ := x
    simp only at hs hb
    subst hs
    refine .sl b off (n + 1) cap 1 _ (fun i _ => .int k (zs.getD i 0)) (by simp; omega) hl (fun i e he => ?_) ⟨hb, rfl⟩ (fun i e j y he hy => ?_) (fun i e j y he hy => ?_)
    · rw [List.getElem?_map, Option.map_eq_some_iff] at he
      obtain ⟨z, _, rfl⟩ := he
      rfl
    · rw [List.getElem?_map, Option.map_eq_some_iff] at he
      obtain ⟨z, hz1, rfl⟩ := he
      have hj : j = 0 := by
        cases j with
        | zero => rfl
        | succ j => simp at hy
      subst hj
      have hi : i < zs.length := by
        have := (List.getElem?_eq_some_iff.1 hz1).1
        simp at this; omega
      have := hc i hi
      rw [addr_add] at this
      simpa using this
    · rw [List.getElem?_map, Option.map_eq_some_iff] at he
      obtain ⟨z, hz1, rfl⟩ := he
      have hj : j = 0 := by
        cases j with
        | zero => rfl
        | succ j => simp at hy
      subst hj
      simp only [List.getElem?_cons_zero, Option.some.injEq] at hy
      subst hy
      have hz2 : zs.getD i 0 = z := by
        rw [List.getElem?_take] at hz1
        split at hz1
        · simp [List.getD, hz1]
        · cases hz1
      simp only [hz2]
      exact .int k z

theorem one_sg {P : Program} {τ : TypeId → Option TI} {An : FuncId → FA} {Sgs : FuncId → List Sg} {f : FuncId} {sg0 sg : Sg} {fn0 : Func} (h : fnC τ An Sgs f sg0 fn0 (fn0.body.getD .skip) = true) (hf : P.funcs[f]? = some fn0) (hs : sg ∈ [sg0]) : ∀ fn c, P.funcs[f]? = some fn → fn.body = some c → fnC τ An Sgs f sg fn c = true := by
  intro fn c h1 h2
  rw [hf] at h1
  cases h1
  rw [List.mem_singleton] at hs
  subst hs
  rw [h2] at h
  exact h
end Go.Own

/- What a row's arguments read, as typed data. -/
namespace Go.Own
open Go.RowKit

/-- Cells that read so, with nobody owning them. -/
def CR (w : World) (cs : List Value) (xs : List T) : Prop := cs.length = xs.length ∧ ∀ (j : Nat) c y, cs[j]? = some c → xs[j]? = some y → nagg c ∧ Rd (frz G.old w) w c y

theorem CR.nil {w : World} {cs : List Value} (h : cs.length = 0) : CR w cs [] := ⟨h, fun j c y _ h => by simp at h⟩
theorem CR.cons {w : World} {cs : List Value} {off size : Nat} {xs ys : List T} (hs : xs.length = size) (h : CR w ((cs.drop off).take size) xs) (r : CR w (cs.drop (off + size)) ys) : CR w (cs.drop off) (xs ++ ys) := by
  obtain ⟨h1, h2⟩ := h
  obtain ⟨r1, r2⟩ := r
  simp only [List.length_take, List.length_drop] at h1
  rw [List.length_drop] at r1
  refine ⟨by rw [List.length_drop, List.length_append]; omega, fun j c y hc hy => ?_⟩
  by_cases hj : j < size
  · rw [List.getElem?_append_left (by omega)] at hy
    exact h2 j c y (by rw [List.getElem?_take, if_pos hj]; exact hc) hy
  · rw [List.getElem?_append_right (by omega)] at hy
    refine r2 (j - size) c y ?_ (by rw [← hs]; exact hy)
    rw [List.getElem?_drop] at hc ⊢
    rw [show off + size + (j - size) = off + j by omega]; exact hc
theorem CR.one {w : World} {c : Value} {y : T} (hn : nagg c) (h : Rd (frz G.old w) w c y) : CR w [c] [y] := ⟨rfl, fun j c' y' hc hy => by
  cases j with
  | zero => simp only [List.getElem?_cons_zero, Option.some.injEq] at hc hy; subst hc; subst hy; exact ⟨hn, h⟩
  | succ j => simp at hc⟩

/-- Whatever is read of a type, with such fuel, is told so. -/
def OpF (P : Program) (n : Nat) (t : TypeId) {α : Type} (f : α → List T) (ok : α → Prop) : Prop := ∀ {H : Type} (enc : TypeId × Value → H) (w : World) (base : Nat) (spare : Nat → Bool) (held : Bool) (cs : List Value) (x : DataW H × List MemPlace),
  DataW.trod enc P w base spare held n t cs = some x → ∃ a, CR w cs (f a) ∧ ok a

section
variable {P : Program} {t e : TypeId}

theorem OpF.zero {α : Type} {f : α → List T} {ok : α → Prop} : OpF P 0 t f ok := fun _ _ _ _ _ _ _ h => by simp [DataW.trod] at h
theorem OpF.int {n : Nat} {k : IntKind} (ht : P.underlying t = some (.int k)) : OpF P n t (fun a : Int => [.int k a]) (fun a => k.min ≤ a ∧ a ≤ k.max) := fun enc w base spare held cs x h => by
  obtain ⟨a, rfl, _, hw⟩ := DataW.trod_int ht h
  refine ⟨a, .one ⟨nofun, nofun⟩ (.int k a), ?_⟩
  unfold Lit.wf at hw
  simp only [Bool.and_eq_true, decide_eq_true_eq] at hw
  exact hw
theorem OpF.str {n : Nat} (ht : P.underlying t = some .string) : OpF P n t (fun a : List UInt8 => [.str a]) (fun a => a.length ≤ maxLen) := fun enc w base spare held cs x h => by
  obtain ⟨a, rfl, _, hw⟩ := DataW.trod_string ht h
  exact ⟨a.data.toList, .one ⟨nofun, nofun⟩ (.str a), by show a.data.toList.length ≤ maxLen; rw [Array.length_toList]; exact hw⟩
theorem OpF.bool {n : Nat} (ht : P.underlying t = some .bool) : OpF P n t (fun a : Bool => [.bool a]) (fun _ => True) := fun enc w base spare held cs x h => by
  have : ∃ b, cs = [.bool b] := by
    cases n with
    | zero => simp [DataW.trod] at h
    | succ n =>
      unfold DataW.trod at h
      rw [ht] at h
      split at h <;> simp_all
  obtain ⟨b, rfl⟩ := this
  exact ⟨b, .one ⟨nofun, nofun⟩ (.bool b), trivial⟩
theorem OpF.slice {n s : Nat} {α : Type} {f : α → List T} {ok : α → Prop} (ht : P.underlying t = some (.slice e)) (hc : P.cellsOf e = s) (hs : 0 < s) (hf : ∀ a, (f a).length = s) (h : OpF P n e f ok) : OpF P (n + 1) t (fun l : List α => [.sl (l.map f)]) (fun l => l.length ≤ maxLen ∧ ∀ a ∈ l, ok a) := fun enc w base spare held cs x hx => by
  rcases DataW.trod_slice ht hx with ⟨rfl, _⟩ | ⟨a, len, cap, elems, rest, m, hm, rfl, _, hb, hl, hcap, hlen, hel, _, _⟩
  · exact ⟨[], .one ⟨nofun, nofun⟩ (.nil _ _), by simp, by simp⟩
  · have hm : m = n := by omega
    subst hm
    have each : ∀ i, i < len → ∃ cs' a', w.cells? base (a.add (i * s)) s = some cs' ∧ CR w cs' (f a') ∧ ok a' := fun i hi => by
      have h1 := hel i hi
      rw [hc, List.getElem?_eq_getElem (by omega)] at h1
      obtain ⟨cs', h2, h3⟩ := Option.bind_eq_some_iff.1 h1
      obtain ⟨a', h4, h5⟩ := h enc w base spare held cs' _ h3
      exact ⟨cs', a', h2, h4, h5⟩
    have hl2 : ∃ L : List α, L.length = len ∧ ∀ (i : Nat) a', L[i]? = some a' → (∃ cs', w.cells? base (a.add (i * s)) s = some cs' ∧ CR w cs' (f a')) ∧ ok a' := by
      have : ∀ k, k ≤ len → ∃ L : List α, L.length = k ∧ ∀ (i : Nat) a', L[i]? = some a' → (∃ cs', w.cells? base (a.add (i * s)) s = some cs' ∧ CR w cs' (f a')) ∧ ok a' := by
        intro k
        induction k with
        | zero => exact fun _ => ⟨[], rfl, fun i a' h => by simp at h⟩
        | succ k ih =>
          intro hk
          obtain ⟨L, h1, h2⟩ := ih (by omega)
          obtain ⟨cs', a', h3, h4, h5⟩ := each k (by omega)
          refine ⟨L ++ [a'], by simp [h1], fun i b hb => ?_⟩
          by_cases hi : i < L.length
          · rw [List.getElem?_append_left hi] at hb
            exact h2 i b hb
          · rw [List.getElem?_append_right (by omega)] at hb
            have hi0 : i - L.length = 0 := by
              rcases Nat.eq_zero_or_pos (i - L.length) with h | h
              · exact h
              · rw [List.getElem?_eq_none (by simp; omega)] at hb; cases hb
            rw [hi0] at hb
            simp only [List.getElem?_cons_zero, Option.some.injEq] at hb
            subst hb
            have : i = k := by omega
            subst this
            exact ⟨⟨cs', h3, h4⟩, h5⟩
      exact this len (Nat.le_refl _)
    obtain ⟨L, hL, hLi⟩ := hl2
    refine ⟨L, .one ⟨nofun, nofun⟩ ?_, ?_, fun b hb => ?_⟩
    · cases len with
      | zero =>
        have : L = [] := List.eq_nil_of_length_eq_zero hL
        subst this
        exact .nil _ _
      | succ len =>
        have cell : ∀ (i : Nat) b (j : Nat) y, L[i]? = some b → (f b)[j]? = some y → ∃ c, w.cell? ((a.add (i * s)).add j) = some c ∧ nagg c ∧ Rd (frz G.old w) w c y := fun i b j y hb hy => by
          obtain ⟨⟨cs', h1, h2, h3⟩, _⟩ := hLi i b hb
          unfold World.cells? at h1
          split at h1 <;> try cases h1
          have hj : j < s := by
            have := (List.getElem?_eq_some_iff.1 hy).1
            rw [hf] at this; exact this
          have hjc : j < cs'.length := by rw [h2, hf]; exact hj
          have h4 := mapM_some_get h1 j j (by rw [List.getElem?_range hj])
          rw [List.getElem?_eq_getElem hjc] at h4
          exact ⟨cs'[j], h4, h3 j _ y (List.getElem?_eq_getElem hjc) hy⟩
        have h0 : (0 : Nat) < L.length := by omega
        have hf0 : 0 < (f L[0]).length := by rw [hf]; exact hs
        obtain ⟨c0, h00, _⟩ := cell 0 L[0] 0 _ (List.getElem?_eq_getElem h0) (List.getElem?_eq_getElem hf0)
        obtain ⟨hbk, hsp⟩ := cell_lt h00
        have e0 : (a.add (0 * s)).add 0 = a := by simp [Addr.add]
        rw [e0] at hbk hsp
        obtain ⟨b, off, sp⟩ := a
        simp only at hsp hbk
        subst hsp
        have cell' : ∀ (i : Nat) b' (j : Nat) y, L[i]? = some b' → (f b')[j]? = some y → ∃ c, w.cell? ⟨b, off + i * s + j, none⟩ = some c ∧ nagg c ∧ Rd (frz G.old w) w c y := fun i b' j y hb' hy => by
          have := cell i b' j y hb' hy
          rwa [addr_add, addr_add] at this
        refine .sl b off (len + 1) cap s _ (fun i j => (w.cell? ⟨b, off + i * s + j, none⟩).getD undef) (by simp [hL]) hl (fun i e' he => ?_) ⟨hbk, rfl⟩ (fun i e' j y he hy => ?_) (fun i e' j y he hy => ?_)
        · rw [List.getElem?_map, Option.map_eq_some_iff] at he
          obtain ⟨z, _, rfl⟩ := he
          exact hf z
        · rw [List.getElem?_map, Option.map_eq_some_iff] at he
          obtain ⟨z, hz, rfl⟩ := he
          obtain ⟨c, h1, _⟩ := cell' i z j y hz hy
          simp only [h1, Option.getD_some]
        · rw [List.getElem?_map, Option.map_eq_some_iff] at he
          obtain ⟨z, hz, rfl⟩ := he
          obtain ⟨c, h1, _, h3⟩ := cell' i z j y hz hy
          simp only [h1, Option.getD_some]
          exact h3
    · rw [hL]; omega
    · obtain ⟨i, hi, rfl⟩ := List.getElem_of_mem hb
      exact (hLi i _ (List.getElem?_eq_getElem hi)).2

/-- A struct's field. -/
theorem OpF.field {n m : Nat} {H : Type} {enc : TypeId × Value → H} {w : World} {base : Nat} {spare : Nat → Bool} {held : Bool} {cs : List Value} {xs : List (DataW H × List MemPlace)} {fs : Array Field} {α : Type} {f : α → List T} {ok : α → Prop} {i off size : Nat} {fd : Field}
    (hlen : xs.length = fs.size) (hf : ∀ (i : Nat) (f : Field), fs[i]? = some f → DataW.trod enc P w base spare held n f.type ((cs.drop f.offset).take (P.cellsOf f.type)) = xs[i]?) (hfd : fs[i]? = some fd) (hm : n = m) (hoff : fd.offset = off) (hsz : P.cellsOf fd.type = size) (ho : OpF P m fd.type f ok) : ∃ a, CR w ((cs.drop off).take size) (f a) ∧ ok a := by
  subst hm; subst hoff; subst hsz
  have hi : i < xs.length := by rw [hlen]; exact (Array.getElem?_eq_some_iff.1 hfd).1
  have h1 := hf i fd hfd
  rw [List.getElem?_eq_getElem hi] at h1
  exact ho enc w base spare held _ _ h1
end

theorem Rd.nowhere {Q : Nat → Prop} {w : World} {v : Value} {x : T} (h : Rd Q w v x) (hs : Own.scal x = true) : Rd (fun _ => False) w v x := by
  cases h with
  | int => exact .int _ _
  | bool => exact .bool _
  | str => exact .str _
  | _ => cases hs
end Go.Own

/- Steps at elements of slices that are turned in place. -/
namespace Go.Own
open Go.RowKit

section
variable {P : Program} {τ : TypeId → Option TI} {An : FuncId → FA} {F : FA} {ds : List (Option Nat)} {r : List Oper} {x : D} {K : D → Prop} {ty : TypeId} {pos : String} {after : Array Edge} {gd : Option (Nat × Bool)} {d : Nat}

theorem als {t : Nat} {es : List (List T)} (hg : guardD ds x gd = some true) (hm : mem d F.al = true) (hv : x.sl t = .one (.c (.sl es))) (hf : fits (.one (.al (.s t 0 0) [])) (F.shOf d) = true) (h : vcOps P τ An F ds r (x.put d (.one (.al (.s t 0 0) []))) K) : vcOps P τ An F ds (⟨some d, .move (.tmp t), ty, pos, after, gd⟩ :: r) x K := by
  refine step_run hg rfl ?_ h
  show (bif mem d F.al then dAlias F x d (.tmp t) else dMove F x d (.tmp t)) = _
  rw [hm]
  show dAlias F x d (.tmp t) = _
  unfold dAlias
  simp only [hv]
  exact putD_eq hf
theorem alo {t : TypeId} {v : Operand} {ti : TI} {ob p : Nat} {cells : List T} (hg : guardD ds x gd = some true) (ht : τ t = some ti) (hm : mem d F.al = true) (hv : ev x.sl v = .one (.ptr ob p)) (hc : x.ob ob = some cells) (hq : (isSlT τ t && slT (cells[p]?)) = true) (hf : fits (.one (.al (.oc ob p) [])) (F.shOf d) = true) (h : vcOps P τ An F ds r (x.put d (.one (.al (.oc ob p) []))) K) :
    vcOps P τ An F ds (⟨some d, .load t v, ty, pos, after, gd⟩ :: r) x K := by
  refine step_run hg rfl ?_ h
  show dLoad τ F x d t v (mem d F.al) = _
  unfold dLoad
  simp only [ht, hv, hc, hm, cond_true, hq]
  exact putD_eq hf
theorem ixp {α : Type} {L : List α} {f : α → List T} {a : α} {t e : TypeId} {ei : TI} {v i : Operand} {l : Loc} {k : IntKind} {n : Int} (hix : ix L n = some a) (hg : guardD ds x gd = some true) (ht : tk τ t = some (.sl e)) (he : τ e = some ei) (hv : ev x.sl v = .one (.al l [])) (hr : x.at l = some (.sl (L.map f))) (hi : ev x.sl i = .one (.c (.int k n))) (hsz : (f a).length = ei.size)
    (hf : fits (.one (.pp l [] 0 0)) (F.shOf d) = true) (h : vcOps P τ An F ds r (x.put d (.one (.pp l [] n.toNat 0))) K) : vcOps P τ An F ds (⟨some d, .indexAddr t v i, ty, pos, after, gd⟩ :: r) x K := by
  unfold ix at hix
  split at hix <;> try cases hix
  rename_i h0
  refine step_run hg rfl ?_ h
  show dIndex τ F x d t v i = _
  unfold dIndex
  have hrow : (L.map f)[n.toNat]? = some (f a) := by rw [List.getElem?_map, hix]; rfl
  simp only [ht, hi, hv, hr, Option.bind_some, nav, idx, he, h0, if_true, hrow, hsz, Nat.beq_refl, cond_true]
  refine putD_eq ?_
  revert hf
  cases F.shOf d with
  | tup ws => simp [fits]
  | one w => cases w <;> simp [fits, fitsW]
theorem upd_slot {t : Nat} {y z : T} (h : x.sl t = .one (.c y)) : x.upd (.s t 0 0) z = x.put t (.one (.c z)) := D.ext (fun i => by
  simp only [D.upd, slSet, D.put]
  by_cases e : i = t
  · subst e; rw [if_pos rfl, if_pos rfl, h]; rfl
  · rw [if_neg e, if_neg e]) (fun _ => rfl)
theorem upd_cell {o j : Nat} {cells : List T} {z : T} (h : x.ob o = some cells) : x.upd (.oc o j) z = x.setO o (cells.set j z) := D.ext (fun _ => rfl) (fun i => by
  simp only [D.upd, obSet, D.setO]
  by_cases e : i = o
  · subst e; rw [if_pos rfl, if_pos rfl, h]; rfl
  · rw [if_neg e, if_neg e])
theorem storeP {α : Type} {L : List α} {f : α → List T} {a v' : α} {i : Int} {t : TypeId} {v y : Operand} {ti : TI} {l : Loc} {j : Nat} {xs : List T} (hix : ix L i = some a) (ht : τ t = some ti) (hv : ev x.sl v = .one (.pp l [] i.toNat j)) (hr : x.at l = some (.sl (L.map f))) (hy : cellsOfV (ev x.sl y) = some xs) (hq : (Nat.beq xs.length ti.size && Nat.ble (j + xs.length) (f a).length) = true) (hrow : (f a).take j ++ xs ++ (f a).drop (j + xs.length) = f v') :
    dOp τ F x ⟨none, .store t v y, ty, pos, after, gd⟩ = some (x.upd l (.sl ((L.set i.toNat v').map f))) := by
  unfold ix at hix
  split at hix <;> try cases hix
  have hrw : (L.map f)[i.toNat]? = some (f a) := by rw [List.getElem?_map, hix]; rfl
  show (match τ t, ev x.sl v, cellsOfV (ev x.sl y) with
      | some i, .one (.ptr ob p), some xs => dStoreO F x i ob p xs
      | some i, .one (.pp l p n j), some xs => dStoreP F x i l p n j xs
      | _, _, _ => none) = _
  rw [ht, hv, hy]
  simp only [dStoreP, hr, nav, hrw, hq, cond_true, hrow, setAt, List.map_set]
theorem stp {α : Type} {L : List α} {f : α → List T} {a v' : α} {i : Int} {t : TypeId} {v y : Operand} {ti : TI} {tt j : Nat} {xs : List T} (hix : ix L i = some a) (hg : guardD ds x gd = some true) (ht : τ t = some ti) (hv : ev x.sl v = .one (.pp (.s tt 0 0) [] i.toNat j)) (hr : x.sl tt = .one (.c (.sl (L.map f)))) (hy : cellsOfV (ev x.sl y) = some xs) (hq : (Nat.beq xs.length ti.size && Nat.ble (j + xs.length) (f a).length) = true) (hrow : (f a).take j ++ xs ++ (f a).drop (j + xs.length) = f v')
    (h : vcOps P τ An F ds r (x.put tt (.one (.c (.sl ((L.set i.toNat v').map f))))) K) : vcOps P τ An F ds (⟨none, .store t v y, ty, pos, after, gd⟩ :: r) x K := by
  have h1 := storeP (F := F) (ty := ty) (pos := pos) (after := after) (gd := gd) hix ht hv (by show (x.sl tt).leaf 0 0 = _; rw [hr]; rfl) hy hq hrow
  rw [upd_slot hr] at h1
  exact step_run hg rfl h1 h
theorem spo {α : Type} {L : List α} {f : α → List T} {a v' : α} {i : Int} {t : TypeId} {v y : Operand} {ti : TI} {o p j : Nat} {xs cells cs : List T} (hix : ix L i = some a) (hg : guardD ds x gd = some true) (ht : τ t = some ti) (hv : ev x.sl v = .one (.pp (.oc o p) [] i.toNat j)) (hc : x.ob o = some cells) (hr : cells[p]? = some (.sl (L.map f))) (hy : cellsOfV (ev x.sl y) = some xs) (hq : (Nat.beq xs.length ti.size && Nat.ble (j + xs.length) (f a).length) = true) (hrow : (f a).take j ++ xs ++ (f a).drop (j + xs.length) = f v')
    (hcs : cells.set p (.sl ((L.set i.toNat v').map f)) = cs) (h : vcOps P τ An F ds r (x.setO o cs) K) : vcOps P τ An F ds (⟨none, .store t v y, ty, pos, after, gd⟩ :: r) x K := by
  have h1 := storeP (F := F) (ty := ty) (pos := pos) (after := after) (gd := gd) hix ht hv (by show (x.ob o).bind (·[p]?) = _; rw [hc]; exact hr) hy hq hrow
  rw [upd_cell hc, hcs] at h1
  exact step_run hg rfl h1 h
end
end Go.Own

/- Walks in few words: what is known of the data is told by a list, and the goal carries it. -/
namespace Go.Own
open Go.RowKit

inductive SS (α : Type) where
  | nil
  | cons (i : Nat) (a : α) (r : SS α)
  | many (l : List (Nat × α)) (r : SS α)
  | drop (l : List (Nat × Nat)) (r : SS α)
/-- i lies in one of the ranges. -/
def inR (i : Nat) : List (Nat × Nat) → Bool
  | [] => false
  | p :: r => (Nat.ble p.1 i && Nat.ble i p.2) || inR i r
def SS.get {α : Type} : SS α → Nat → Option α
  | .nil, _ => none
  | .cons j a r, i => bif Nat.beq i j then some a else r.get i
  | .many l r, i => match look i l with | some a => some a | none => r.get i
  | .drop l r, i => bif inR i l then none else r.get i

def rIn (lo hi : Nat) : List (Nat × Nat) → Bool
  | [] => false
  | p :: r => (Nat.ble p.1 lo && Nat.ble hi p.2) || rIn lo hi r
def allIn (w : List (Nat × Nat)) : List (Nat × Nat) → Bool
  | [] => true
  | q :: r => rIn q.1 q.2 w && allIn w r
def keysIn {α : Type} (w : List (Nat × Nat)) : List (Nat × α) → Bool
  | [] => true
  | p :: r => inR p.1 w && keysIn w r
/-- What is left when w's are taken off. -/
def SS.strip {α : Type} (w : List (Nat × Nat)) : SS α → SS α
  | .nil => .nil
  | .cons j a r => bif inR j w then r.strip w else .cons j a r
  | .many l r => bif keysIn w l then r.strip w else .many l r
  | .drop l r => bif allIn w l then r.strip w else .drop l r

theorem rIn_in {lo hi i : Nat} (h1 : lo ≤ i) (h2 : i ≤ hi) : ∀ {w : List (Nat × Nat)}, rIn lo hi w = true → inR i w = true
  | [], h => h
  | p :: r, h => by
    simp only [rIn, Bool.or_eq_true, Bool.and_eq_true] at h
    simp only [inR, Bool.or_eq_true, Bool.and_eq_true]
    rcases h with h | h
    · exact .inl ⟨Nat.ble_eq_true_of_le (Nat.le_trans (Nat.le_of_ble_eq_true h.1) h1), Nat.ble_eq_true_of_le (Nat.le_trans h2 (Nat.le_of_ble_eq_true h.2))⟩
    · exact .inr (rIn_in h1 h2 h)
theorem mem_allIn {w : List (Nat × Nat)} {i : Nat} (hi : inR i w = false) : ∀ {l : List (Nat × Nat)}, allIn w l = true → inR i l = false
  | [], _ => rfl
  | q :: r, h => by
    simp only [allIn, Bool.and_eq_true] at h
    simp only [inR, mem_allIn hi h.2, Bool.or_false]
    cases e : (Nat.ble q.1 i && Nat.ble i q.2) with
    | false => rfl
    | true =>
      simp only [Bool.and_eq_true] at e
      rw [rIn_in (Nat.le_of_ble_eq_true e.1) (Nat.le_of_ble_eq_true e.2) h.1] at hi; cases hi
theorem look_keysIn {α : Type} {w : List (Nat × Nat)} {i : Nat} (hi : inR i w = false) : ∀ {l : List (Nat × α)}, keysIn w l = true → look i l = none
  | [], _ => rfl
  | (j, a) :: r, h => by
    simp only [keysIn, Bool.and_eq_true] at h
    simp only [look]
    cases e : Nat.beq i j with
    | false => exact look_keysIn hi h.2
    | true => have := Nat.eq_of_beq_eq_true e; subst this; rw [h.1] at hi; cases hi
theorem strip_get {α : Type} {w : List (Nat × Nat)} {i : Nat} (hi : inR i w = false) : ∀ s : SS α, (s.strip w).get i = s.get i
  | .nil => rfl
  | .cons j a r => by
    simp only [SS.strip]
    cases h : inR j w with
    | false => rfl
    | true =>
      simp only [cond_true, SS.get]
      rw [strip_get hi r]
      cases e : Nat.beq i j with
      | false => rfl
      | true => have := Nat.eq_of_beq_eq_true e; subst this; rw [h] at hi; cases hi
  | .many l r => by
    simp only [SS.strip]
    cases h : keysIn w l with
    | false => rfl
    | true =>
      simp only [cond_true, SS.get]
      rw [strip_get hi r, look_keysIn hi h]
  | .drop l r => by
    simp only [SS.strip]
    cases h : allIn w l with
    | false => rfl
    | true =>
      simp only [cond_true, SS.get]
      rw [strip_get hi r, mem_allIn hi h]; rfl

/-- s tells all that t tells. -/
structure LeS {α : Type} (t s : SS α) : Prop where
  get : ∀ i a, t.get i = some a → s.get i = some a
theorem ln0 {α : Type} {s : SS α} : LeS .nil s := ⟨fun _ _ h => by cases h⟩
theorem lb {α : Type} {w : List (Nat × Nat)} {s0 s : SS α} (h : s.strip w = s0.strip w) : LeS (.drop w s0) s := ⟨fun i a hi => by
  simp only [SS.get] at hi
  cases hw : inR i w with
  | true => rw [hw] at hi; cases hi
  | false => rw [hw] at hi; rw [← strip_get hw s, h, strip_get hw s0]; exact hi⟩
theorem lm {α : Type} {s r : SS α} (h : LeS r s) : LeS (.many [] r) s := ⟨fun i a hi => h.get i a hi⟩
theorem lc {α : Type} {i : Nat} {a : α} {l : List (Nat × α)} {s r : SS α} (h0 : s.get i = some a) (h : LeS (.many l r) s) : LeS (.many ((i, a) :: l) r) s := ⟨fun j b hj => by
  simp only [SS.get, look] at hj
  cases e : Nat.beq j i with
  | true =>
    have := Nat.eq_of_beq_eq_true e
    subst this
    rw [Nat.beq_refl] at hj
    simp only [cond_true, Option.some.injEq] at hj
    subst hj; exact h0
  | false => rw [e] at hj; exact h.get j b (by simpa [SS.get] using hj)⟩

def gets {α : Type} (s : SS α) : List (Nat × α) → Option (List α)
  | [] => some []
  | p :: r => match s.get p.1, gets s r with
    | some a, some l => some (a :: l)
    | _, _ => none
def vals {α : Type} : List (Nat × α) → List α
  | [] => []
  | p :: r => p.2 :: vals r
theorem le_of {α : Type} {s s0 : SS α} {w : List (Nat × Nat)} (h : s.strip w = s0.strip w) : ∀ {l : List (Nat × α)}, gets s l = some (vals l) → LeS (.many l (.drop w s0)) s
  | [], _ => lm (lb h)
  | (i, a) :: r, h2 => by
    simp only [gets, vals] at h2
    split at h2 <;> try cases h2
    rename_i b l h3 h4
    exact lc h3 (le_of h h4)

structure Mt (S : SS V) (O : SS (List T)) (x : D) : Prop where
  sl : ∀ i v, S.get i = some v → x.sl i = v
  ob : ∀ o cs, O.get o = some cs → x.ob o = some cs
theorem Mt.le {S S' : SS V} {O O' : SS (List T)} {x : D} (h : Mt S O x) (h1 : LeS S' S) (h2 : LeS O' O) : Mt S' O' x := ⟨fun i v hi => h.sl i v (h1.get i v hi), fun o cs ho => h.ob o cs (h2.get o cs ho)⟩
theorem Mt.put {S : SS V} {O : SS (List T)} {x : D} (h : Mt S O x) (d : Nat) (v : V) : Mt (.cons d v S) O (x.put d v) := ⟨fun i u hi => by
  simp only [SS.get] at hi
  simp only [D.put]
  cases e : Nat.beq i d with
  | true =>
    rw [e] at hi
    simp only [cond_true, Option.some.injEq] at hi
    rw [if_pos (Nat.eq_of_beq_eq_true e)]; exact hi
  | false =>
    rw [e] at hi
    rw [if_neg (fun e2 => by subst e2; rw [Nat.beq_refl] at e; cases e)]
    exact h.sl i u hi, h.ob⟩
theorem Mt.setO {S : SS V} {O : SS (List T)} {x : D} (h : Mt S O x) (o : Nat) (cs : List T) : Mt S (.cons o cs O) (x.setO o cs) := ⟨h.sl, fun i u hi => by
  simp only [SS.get] at hi
  simp only [D.setO]
  cases e : Nat.beq i o with
  | true =>
    rw [e] at hi
    simp only [cond_true, Option.some.injEq] at hi
    rw [if_pos (Nat.eq_of_beq_eq_true e), hi]
  | false =>
    rw [e] at hi
    rw [if_neg (fun e2 => by subst e2; rw [Nat.beq_refl] at e; cases e)]
    exact h.ob i u hi⟩
/-- A slot's datum told anew by what is equal to it. -/
theorem Mt.su {S : SS V} {O : SS (List T)} {x : D} (h : Mt S O x) {d : Nat} {v u : V} (hv : S.get d = some v) (e : v = u) : Mt (.cons d u S) O x := by
  have := h.put d u
  rwa [put_self (by rw [h.sl d v hv, e])] at this

/-! ### operands -/
def evS (S : SS V) : Operand → Option V
  | .tmp t => S.get t
  | .const v => some (constV v)
  | .func f => some (.one (.fn f []))
  | .global _ => none
def atS (S : SS V) (O : SS (List T)) : Loc → Option T
  | .s i _ j => (S.get i).bind (·.leaf 0 j)
  | .oc o j => (O.get o).bind (·[j]?)
  | _ => none
/-- What is read. -/
def rdS (S : SS V) (O : SS (List T)) (y : Operand) : Option V := match evS S y with
  | some (.one (.al (.s i 0 j) [])) => match atS S O (.s i 0 j) with | some t => some (.one (.c t)) | none => none
  | some (.one (.al (.oc o j) [])) => match atS S O (.oc o j) with | some t => some (.one (.c t)) | none => none
  | some (.one (.al _ _)) => none
  | v => v
def gS (ds : List (Option Nat)) (S : SS V) : Option (Nat × Bool) → Option Bool
  | none => some true
  | some (j, want) => match ds[j]? with
    | some (some t) => (match S.get t with
      | some (.one (.c (.bool true))) => some want
      | some (.one (.c (.bool false))) => some (!want)
      | some (.tup []) => some false
      | _ => none)
    | _ => none

section
variable {S : SS V} {O : SS (List T)} {x : D}
theorem Mt.ev (h : Mt S O x) {y : Operand} {v : V} (hv : evS S y = some v) : Own.ev x.sl y = v := by
  cases y with
  | tmp t => exact h.sl t v hv
  | const c => exact Option.some.inj hv
  | func f => exact Option.some.inj hv
  | global g => cases hv
theorem Mt.at (h : Mt S O x) {l : Loc} {t : T} (hk : ∀ i k j, l = .s i k j → k = 0) (hv : atS S O l = some t) : x.at l = some t := by
  cases l with
  | s i k j =>
    have := hk i k j rfl
    subst this
    simp only [atS, Option.bind_eq_some_iff] at hv
    obtain ⟨v, h1, h2⟩ := hv
    simp only [D.at, atL, h.sl i v h1, h2]
  | oc o j =>
    simp only [atS, Option.bind_eq_some_iff] at hv
    obtain ⟨v, h1, h2⟩ := hv
    simp only [D.at, atL, h.ob o v h1, Option.bind_some, h2]
  | _ => cases hv
theorem Mt.rd (h : Mt S O x) {y : Operand} {v : V} (hv : rdS S O y = some v) : evD x y = v := by
  unfold rdS at hv
  unfold evD
  split at hv
  · rename_i i j he
    rw [h.ev he]
    split at hv
    · rename_i t ht
      have := h.at (l := .s i 0 j) (fun i k j e => by cases e; rfl) ht
      simp only [D.at] at this
      simp only [resV, this, Option.bind_some, nav]
      exact Option.some.inj hv
    · cases hv
  · rename_i o j he
    rw [h.ev he]
    split at hv
    · rename_i t ht
      have := h.at (l := .oc o j) (fun i k j e => by cases e) ht
      simp only [D.at] at this
      simp only [resV, this, Option.bind_some, nav]
      exact Option.some.inj hv
    · cases hv
  · cases hv
  · rename_i h1 h2 h3
    cases v with
    | tup ws => rw [h.ev hv]; rfl
    | one w =>
      rw [h.ev hv]
      cases w with
      | al l p => exact absurd hv (h3 l p)
      | _ => rfl
theorem Mt.gd (h : Mt S O x) {ds : List (Option Nat)} {gd : Option (Nat × Bool)} {b : Bool} (hg : gS ds S gd = some b) : guardD ds x gd = some b := by
  unfold gS at hg
  unfold guardD
  split at hg
  · exact hg
  · rename_i j want
    split at hg
    · rename_i t hd
      simp only [hd]
      split at hg <;> try cases hg
      · rename_i e; rw [h.sl t _ e]; cases b <;> rfl
      · rename_i e; rw [h.sl t _ e]; cases want <;> rfl
      · rename_i e; rw [h.sl t _ e]
    · cases hg
end

/-! ### code -/
inductive Kt where
  | seq (b : Code) (k : Kt)
  | blk (id : Nat) (k : Kt)
  | top (Q : Ek → D → Prop)

section
variable (P : Program) (τ : TypeId → Option TI) (An : FuncId → FA) (F : FA)
def Kt.den : Kt → Ek → D → Prop
  | .seq b k => thenD (fun x => vcC P τ An F b x k.den) k.den
  | .blk id k => blkD id k.den
  | .top Q => Q

structure Vo (ds : List (Option Nat)) (os : List Oper) (k : Kt) (S : SS V) (O : SS (List T)) : Prop where
  run : ∀ x, Mt S O x → vcOps P τ An F ds os x (fun x1 => k.den P τ An F .n x1)
structure Vc (c : Code) (k : Kt) (S : SS V) (O : SS (List T)) : Prop where
  run : ∀ x, Mt S O x → vcC P τ An F c x (k.den P τ An F)
structure Fin' (Q : Ek → D → Prop) (e : Ek) (S : SS V) (O : SS (List T)) : Prop where
  run : ∀ x, Mt S O x → Q e x
def nxt : Kt → SS V → SS (List T) → Prop
  | .seq b k, S, O => Vc P τ An F b k S O
  | .blk _ k, S, O => nxt k S O
  | .top Q, S, O => Fin' Q .n S O
def exi : Kt → Nat → SS V → SS (List T) → Prop
  | .seq _ k, i, S, O => exi k i S O
  | .blk id k, i, S, O => bif Nat.beq i id then nxt P τ An F k S O else exi k i S O
  | .top Q, i, S, O => Fin' Q (.e i) S O
def rtn : Kt → SS V → SS (List T) → Prop
  | .seq _ k, S, O => rtn k S O
  | .blk _ k, S, O => rtn k S O
  | .top Q, S, O => Fin' Q .r S O
def aft (k : Kt) (e : Ek) (S : SS V) (O : SS (List T)) : Prop := match e with
  | .n => nxt P τ An F k S O
  | .r => rtn k S O
  | .e i => exi P τ An F k i S O
end

section
variable {P : Program} {τ : TypeId → Option TI} {An : FuncId → FA} {F : FA} {k : Kt} {S : SS V} {O : SS (List T)}
theorem nxt_ok : ∀ {k : Kt}, nxt P τ An F k S O → ∀ x, Mt S O x → k.den P τ An F .n x
  | .seq b k, h, x, hx => h.run x hx
  | .blk id k, h, x, hx => by
    show k.den P τ An F (inBlk id .n) x
    have : inBlk id .n = .n := rfl
    rw [this]; exact nxt_ok (k := k) h x hx
  | .top Q, h, x, hx => h.run x hx
theorem exi_ok {i : Nat} : ∀ {k : Kt}, exi P τ An F k i S O → ∀ x, Mt S O x → k.den P τ An F (.e i) x
  | .seq b k, h, x, hx => exi_ok (k := k) h x hx
  | .blk id k, h, x, hx => by
    show k.den P τ An F (inBlk id (.e i)) x
    simp only [exi] at h
    cases e : Nat.beq i id with
    | true =>
      have := Nat.eq_of_beq_eq_true e
      subst this
      rw [e] at h
      have : inBlk i (.e i) = .n := by simp [inBlk]
      rw [this]; exact nxt_ok h x hx
    | false =>
      rw [e] at h
      have : inBlk id (.e i) = .e i := by
        unfold inBlk
        rw [if_neg]
        intro e2
        cases e2
        rw [Nat.beq_refl] at e; cases e
      rw [this]; exact exi_ok (k := k) h x hx
  | .top Q, h, x, hx => h.run x hx
theorem rtn_ok : ∀ {k : Kt}, rtn k S O → ∀ x, Mt S O x → k.den P τ An F .r x
  | .seq b k, h, x, hx => rtn_ok (k := k) h x hx
  | .blk id k, h, x, hx => by
    show k.den P τ An F (inBlk id .r) x
    have : inBlk id .r = .r := rfl
    rw [this]; exact rtn_ok (k := k) h x hx
  | .top Q, h, x, hx => h.run x hx
theorem aft_ok {e : Ek} (h : aft P τ An F k e S O) : ∀ x, Mt S O x → k.den P τ An F e x := by
  cases e with
  | n => exact nxt_ok h
  | r => exact rtn_ok h
  | e i => exact exi_ok h

theorem cSq {a b : Code} (h : Vc P τ An F a (.seq b k) S O) : Vc P τ An F (.seq a b) k S O := ⟨fun x hx => h.run x hx⟩
theorem cSk (h : nxt P τ An F k S O) : Vc P τ An F .skip k S O := ⟨fun x hx => nxt_ok h x hx⟩
theorem cLb {l : Nat} (h : nxt P τ An F k S O) : Vc P τ An F (.label l) k S O := ⟨fun x hx => nxt_ok h x hx⟩
theorem cEx {i : Nat} (h : exi P τ An F k i S O) : Vc P τ An F (.exit i) k S O := ⟨fun x hx => exi_ok h x hx⟩
theorem cRt (h : rtn k S O) : Vc P τ An F .ret k S O := ⟨fun x hx => rtn_ok h x hx⟩
theorem cBk {id : Nat} {c : Code} (h : Vc P τ An F c (.blk id k) S O) : Vc P τ An F (.block id c) k S O := ⟨fun x hx => h.run x hx⟩
theorem cRg {id : Nat} {ops : List Oper} {dr : Bool} (h : Vo P τ An F (ops.map (·.dst)) ops k S O) : Vc P τ An F (.region id ops.toArray dr) k S O := ⟨fun x hx => h.run x hx⟩
theorem cRs {id : Nat} {ops : List Oper} {dr : Bool} {b : Code} (h : Vo P τ An F (ops.map (·.dst)) ops (.seq b k) S O) : Vc P τ An F (.seq (.region id ops.toArray dr) b) k S O := ⟨fun x hx => h.run x hx⟩
theorem cT {t : Nat} {a b : Code} (hc : S.get t = some (.one (.c (.bool true)))) (h : Vc P τ An F a k S O) : Vc P τ An F (.cond (.tmp t) a b) k S O := ⟨fun x hx => c_ct (hx.sl t _ hc) (h.run x hx)⟩
theorem cF {t : Nat} {a b : Code} (hc : S.get t = some (.one (.c (.bool false)))) (h : Vc P τ An F b k S O) : Vc P τ An F (.cond (.tmp t) a b) k S O := ⟨fun x hx => c_cf (hx.sl t _ hc) (h.run x hx)⟩
theorem cIf {ρ : Type} {A B : Option ρ} {r : ρ} {e : Bool} {t : Nat} {a b : Code} (h : (bif e then A else B) = some r) (hc : S.get t = some (.one (.c (.bool e)))) (h1 : e = true → A = some r → Vc P τ An F a k (.cons t (.one (.c (.bool true))) S) O) (h0 : e = false → B = some r → Vc P τ An F b k (.cons t (.one (.c (.bool false))) S) O) : Vc P τ An F (.cond (.tmp t) a b) k S O := by
  cases e with
  | true => exact ⟨fun x hx => c_ct (hx.sl t _ hc) ((h1 rfl h).run x (hx.su hc rfl))⟩
  | false => exact ⟨fun x hx => c_cf (hx.sl t _ hc) ((h0 rfl h).run x (hx.su hc rfl))⟩
theorem cSu {c : Code} {e b : Bool} (t : Nat) (q : e = b) (hc : S.get t = some (.one (.c (.bool e)))) (h : Vc P τ An F c k (.cons t (.one (.c (.bool b))) S) O) : Vc P τ An F c k S O := ⟨fun x hx => h.run x (hx.su hc (by rw [q]))⟩

/-! ### joins -/
abbrev Up := List (Nat × V)
abbrev Uo := List (Nat × List T)
def JQ {ρ : Type} (X : ρ → Ek × Up × Uo) (w wo : List (Nat × Nat)) (S : SS V) (O : SS (List T)) (q : ρ) (e : Ek) (x : D) : Prop := e = (X q).1 ∧ Mt (.many (X q).2.1 (.drop w S)) (.many (X q).2.2 (.drop wo O)) x
theorem eJ {ρ : Type} {X : ρ → Ek × Up × Uo} {w wo : List (Nat × Nat)} {S0 : SS V} {O0 : SS (List T)} {q0 q : ρ} {e : Ek} (h : some q0 = some q) (hl : (e, gets S (X q0).2.1, gets O (X q0).2.2, S.strip w, O.strip wo) = ((X q0).1, some (vals (X q0).2.1), some (vals (X q0).2.2), S0.strip w, O0.strip wo)) : Fin' (JQ X w wo S0 O0 q) e S O := by
  cases h
  simp only [Prod.mk.injEq] at hl
  obtain ⟨he, h1, h2, h3, h4⟩ := hl
  exact ⟨fun x hx => ⟨he, hx.le (le_of h3 h1) (le_of h4 h2)⟩⟩
/-- A piece of code that ends in several ways, told by one value. -/
theorem cJn {ρ β : Type} {o : Option ρ} {f : ρ → Option β} {r : β} {c : Code} (h : o.bind f = some r) (w wo : List (Nat × Nat)) (X : ρ → Ek × Up × Uo) (h1 : ∀ q, o = some q → Vc P τ An F c (.top (JQ X w wo S O q)) S O)
    (h2 : ∀ q, f q = some r → aft P τ An F k (X q).1 (.many (X q).2.1 (.drop w S)) (.many (X q).2.2 (.drop wo O))) : Vc P τ An F c k S O := by
  obtain ⟨q, hq, hf⟩ := bind_some h
  refine ⟨fun x hx => vcC_mono (fun e x1 hh => ?_) ((h1 q hq).run x hx)⟩
  obtain ⟨rfl, hm⟩ := hh
  exact aft_ok (h2 q hf) x1 hm
/-- A region with ways that join behind it. -/
theorem oJn {ρ β : Type} {o : Option ρ} {f : ρ → Option β} {r : β} {ds : List (Option Nat)} {os : List Oper} (h : o.bind f = some r) (w wo : List (Nat × Nat)) (X : ρ → Ek × Up × Uo) (h1 : ∀ q, o = some q → Vo P τ An F ds os (.top (JQ X w wo S O q)) S O)
    (h2 : ∀ q, f q = some r → aft P τ An F k (X q).1 (.many (X q).2.1 (.drop w S)) (.many (X q).2.2 (.drop wo O))) (hn : ∀ q, (X q).1 = .n := by intro; rfl) : Vo P τ An F ds os k S O := by
  obtain ⟨q, hq, hf⟩ := bind_some h
  refine ⟨fun x hx => vcOps_mono (fun x1 hh => ?_) ((h1 q hq).run x hx)⟩
  obtain ⟨he, hm⟩ := hh
  have h3 := h2 q hf
  rw [hn q] at h3
  exact nxt_ok h3 x1 hm

/-! ### loops -/
def LQ {σ ρ : Type} (u : σ → Up × Uo) (X : ρ → Ek × Up × Uo) (w wo : List (Nat × Nat)) (S : SS V) (O : SS (List T)) (o : σ ⊕ ρ) (e : Ek) (x : D) : Prop := match o with
  | .inl s => e = .n ∧ Mt (.many (u s).1 (.drop w S)) (.many (u s).2 (.drop wo O)) x
  | .inr q => e ≠ .n ∧ e = (X q).1 ∧ Mt (.many (X q).2.1 (.drop w S)) (.many (X q).2.2 (.drop wo O)) x
theorem eL {σ ρ : Type} {u : σ → Up × Uo} {X : ρ → Ek × Up × Uo} {w wo : List (Nat × Nat)} {S0 : SS V} {O0 : SS (List T)} {s : σ} {o : σ ⊕ ρ} (h : some (.inl s) = some o) (hl : (gets S (u s).1, gets O (u s).2, S.strip w, O.strip wo) = (some (vals (u s).1), some (vals (u s).2), S0.strip w, O0.strip wo)) : Fin' (LQ u X w wo S0 O0 o) .n S O := by
  cases h
  simp only [Prod.mk.injEq] at hl
  obtain ⟨h1, h2, h3, h4⟩ := hl
  exact ⟨fun x hx => ⟨rfl, hx.le (le_of h3 h1) (le_of h4 h2)⟩⟩
theorem eX {σ ρ : Type} {u : σ → Up × Uo} {X : ρ → Ek × Up × Uo} {w wo : List (Nat × Nat)} {S0 : SS V} {O0 : SS (List T)} {q : ρ} {o : σ ⊕ ρ} {i : Nat} (h : some (.inr q) = some o) (hl : (Ek.e i, gets S (X q).2.1, gets O (X q).2.2, S.strip w, O.strip wo) = ((X q).1, some (vals (X q).2.1), some (vals (X q).2.2), S0.strip w, O0.strip wo)) : Fin' (LQ u X w wo S0 O0 o) (.e i) S O := by
  cases h
  simp only [Prod.mk.injEq] at hl
  obtain ⟨he, h1, h2, h3, h4⟩ := hl
  exact ⟨fun x hx => ⟨nofun, he, hx.le (le_of h3 h1) (le_of h4 h2)⟩⟩
theorem eXr {σ ρ : Type} {u : σ → Up × Uo} {X : ρ → Ek × Up × Uo} {w wo : List (Nat × Nat)} {S0 : SS V} {O0 : SS (List T)} {q : ρ} {o : σ ⊕ ρ} (h : some (.inr q) = some o) (hl : (.r, gets S (X q).2.1, gets O (X q).2.2, S.strip w, O.strip wo) = ((X q).1, some (vals (X q).2.1), some (vals (X q).2.2), S0.strip w, O0.strip wo)) : Fin' (LQ u X w wo S0 O0 o) .r S O := by
  cases h
  simp only [Prod.mk.injEq] at hl
  obtain ⟨he, h1, h2, h3, h4⟩ := hl
  exact ⟨fun x hx => ⟨nofun, he, hx.le (le_of h3 h1) (le_of h4 h2)⟩⟩
theorem cLp {σ ρ β : Type} {body : σ → Option (σ ⊕ ρ)} {n : Nat} {s0 : σ} {f : ρ → Option β} {r : β} {c : Code} {id : Nat} (h : (loopN body n s0).bind f = some r) (w wo : List (Nat × Nat)) (u : σ → Up × Uo) (X : ρ → Ek × Up × Uo) (hl : (gets S (u s0).1, gets O (u s0).2) = (some (vals (u s0).1), some (vals (u s0).2)))
    (hb : ∀ s o, body s = some o → Vc P τ An F c (.top (LQ u X w wo S O o)) (.many (u s).1 (.drop w S)) (.many (u s).2 (.drop wo O)))
    (hx : ∀ q, f q = some r → aft P τ An F (.blk id k) (X q).1 (.many (X q).2.1 (.drop w S)) (.many (X q).2.2 (.drop wo O))) : Vc P τ An F (.block id (.loop c)) k S O := by
  obtain ⟨q, hq, hf⟩ := bind_some h
  simp only [Prod.mk.injEq] at hl
  have hi : LeS (.many (u s0).1 (.drop w S)) S := le_of rfl hl.1
  have hio : LeS (.many (u s0).2 (.drop wo O)) O := le_of rfl hl.2
  refine ⟨fun x hx0 => c_block ?_⟩
  refine Wd.loopN (fun s x => Mt (.many (u s).1 (.drop w S)) (.many (u s).2 (.drop wo O)) x) (fun q e x => e = (X q).1 ∧ Mt (.many (X q).2.1 (.drop w S)) (.many (X q).2.2 (.drop wo O)) x) ?_ hq (hx0.le hi hio) ?_
  · intro s o x hs ho
    refine vcC_mono (fun e x1 hh => ?_) ((hb s o ho).run x hs)
    cases o with
    | inl s' => exact hh
    | inr q => exact hh
  · intro e x1 ⟨he, hm⟩
    subst he
    exact aft_ok (k := .blk id k) (hx q hf) x1 hm

/-! ### a function's end -/
def resS (τ : TypeId → Option TI) (S : SS V) (O : SS (List T)) : ResultVar → Option W
  | .tmp t => (match S.get t with | some (.one w) => some w | _ => none)
  | .cell t ty => (match τ ty, S.get t with
    | some i, some (.one (.ptr o p)) => (match O.get o with
      | some cells => (match loadV i (cells.drop p) with | some (.one w) => some w | _ => none)
      | none => none)
    | _, _ => none)
def resSs (τ : TypeId → Option TI) (S : SS V) (O : SS (List T)) : List ResultVar → Option (List W)
  | [] => some []
  | r :: rs => match resS τ S O r, resSs τ S O rs with
    | some w, some ws => some (w :: ws)
    | _, _ => none
theorem resS_ok {x : D} (hx : Mt S O x) {r : ResultVar} {w : W} (h : resS τ S O r = some w) : resW τ x r = some w := by
  cases r with
  | tmp t =>
    simp only [resS] at h
    split at h <;> try cases h
    rename_i e
    simp only [resW, hx.sl t _ e]
  | cell t ty =>
    simp only [resS] at h
    split at h <;> try cases h
    rename_i i o p h1 h2
    split at h <;> try cases h
    rename_i cells h3
    simp only [resW, h1, hx.sl t _ h2, hx.ob o _ h3]
    exact h
theorem resSs_ok {x : D} (hx : Mt S O x) : ∀ {rs : List ResultVar} {ws : List W}, resSs τ S O rs = some ws → resWs τ x rs = some ws
  | [], ws, h => h
  | r :: rs, ws, h => by
    simp only [resSs] at h
    split at h <;> try cases h
    rename_i w ws' h1 h2
    simp only [resWs, resS_ok hx h1, resSs_ok hx h2]
def obsS (O : SS (List T)) : Nat → List (List T) → Option (List (List T))
  | _, [] => some []
  | i, _ :: r => match O.get (par + i), obsS O (i + 1) r with
    | some cs, some css => some (cs :: css)
    | _, _ => none
theorem obsS_ok {x : D} (hx : Mt S O x) : ∀ {l : List (List T)} {i : Nat} {l' : List (List T)}, obsS O i l = some l' → obsOut x i l = some l'
  | [], i, l', h => h
  | a :: r, i, l', h => by
    simp only [obsS] at h
    split at h <;> try cases h
    rename_i cs css h1 h2
    simp only [obsOut, hx.ob _ _ h1, obsS_ok hx h2]
def nwS (O : SS (List T)) : Option Nat → Option (Option (List T))
  | none => some none
  | some o => match O.get o with | some cs => some (some cs) | none => none
def FQ (τ : TypeId → Option TI) (F : FA) (rs : List ResultVar) (ob : List (List T)) (r : V) (ob' : List (List T)) (nw : Option (List T)) (e : Ek) (x : D) : Prop := (e = .n ∨ e = .r) ∧ ∃ ws, resWs τ x rs = some ws ∧ (retV ws).to (retO F.n0) = r ∧ obsOut x 0 ob = some ob' ∧ F.n0.bind x.ob = nw
theorem eN {rs : List ResultVar} {ob ob' : List (List T)} {r : V} {nw : Option (List T)} {ws : List W} (h1 : resSs τ S O rs = some ws) (h2 : (retV ws).to (retO F.n0) = r) (h3 : obsS O 0 ob = some ob') (h4 : nwS O F.n0 = some nw) : Fin' (FQ τ F rs ob r ob' nw) .n S O := ⟨fun x hx => ⟨.inl rfl, ws, resSs_ok hx h1, h2, obsS_ok hx h3, by
  revert h4
  cases F.n0 with
  | none => intro h4; exact Option.some.inj h4
  | some o =>
    intro h4
    simp only [nwS] at h4
    split at h4 <;> try cases h4
    rename_i e
    exact hx.ob _ _ e⟩⟩
theorem eR {rs : List ResultVar} {ob ob' : List (List T)} {r : V} {nw : Option (List T)} {ws : List W} (h1 : resSs τ S O rs = some ws) (h2 : (retV ws).to (retO F.n0) = r) (h3 : obsS O 0 ob = some ob') (h4 : nwS O F.n0 = some nw) : Fin' (FQ τ F rs ob r ob' nw) .r S O := ⟨fun x hx => by
  obtain ⟨_, h⟩ := (eN (F := F) h1 h2 h3 h4).run x hx
  exact ⟨.inr rfl, h⟩⟩

def pars : Nat → List V → List (Nat × V)
  | _, [] => []
  | i, v :: r => (i, v) :: pars (i + 1) r
def parO : Nat → List (List T) → List (Nat × List T)
  | _, [] => []
  | i, v :: r => (par + i, v) :: parO (i + 1) r
theorem look_pars : ∀ (vs : List V) (i j : Nat) (v : V), look j (pars i vs) = some v → i ≤ j ∧ vs[j - i]? = some v
  | [], i, j, v, h => by cases h
  | u :: r, i, j, v, h => by
    simp only [pars, look] at h
    cases e : Nat.beq j i with
    | true =>
      have := Nat.eq_of_beq_eq_true e
      subst this
      rw [e] at h
      simp only [cond_true, Option.some.injEq] at h
      subst h
      exact ⟨Nat.le_refl _, by rw [Nat.sub_self]; rfl⟩
    | false =>
      rw [e] at h
      obtain ⟨h1, h2⟩ := look_pars r (i + 1) j v h
      refine ⟨by omega, ?_⟩
      rw [show j - i = (j - (i + 1)) + 1 by omega]; exact h2
theorem look_parO : ∀ (vs : List (List T)) (i j : Nat) (v : List T), look j (parO i vs) = some v → par + i ≤ j ∧ vs[j - (par + i)]? = some v
  | [], i, j, v, h => by cases h
  | u :: r, i, j, v, h => by
    simp only [parO, look] at h
    cases e : Nat.beq j (par + i) with
    | true =>
      have := Nat.eq_of_beq_eq_true e
      subst this
      rw [Nat.beq_refl] at h
      simp only [cond_true, Option.some.injEq] at h
      subst h
      exact ⟨Nat.le_refl _, by rw [Nat.sub_self]; rfl⟩
    | false =>
      rw [e] at h
      obtain ⟨h1, h2⟩ := look_parO r (i + 1) j v h
      refine ⟨by omega, ?_⟩
      rw [show j - (par + i) = (j - (par + (i + 1))) + 1 by omega]; exact h2
theorem Mt.start {vs : List V} {ob : List (List T)} : Mt (.many (pars 0 vs) .nil) (.many (parO 0 ob) .nil) (DA vs ob) := ⟨fun i v h => by
  simp only [SS.get] at h
  split at h <;> try cases h
  rename_i h1
  have := (look_pars vs 0 i v h1).2
  show vs.getD i _ = v
  rw [Nat.sub_zero] at this
  rw [List.getD_eq_getElem?_getD, this]; rfl, fun o cs h => by
  simp only [SS.get] at h
  split at h <;> try cases h
  rename_i h1
  obtain ⟨h2, h3⟩ := look_parO ob 0 o cs h1
  show (if par ≤ o then ob[o - par]? else none) = some cs
  rw [if_pos (by omega)]; exact h3⟩
/-- A function's run. -/
theorem bF {f : FuncId} {fn : Func} {c : Code} {vs : List V} {ob ob' : List (List T)} {r : V} {nw : Option (List T)} (hf : P.funcs[f]? = some fn) (hb : fn.body = some c) (hq : (shapesIn (An f) 0 vs && shapesOb (An f) 0 ob && !(An f).io.isSome) = true)
    (h : Vc P τ An (An f) c (.top (FQ τ (An f) fn.results.toList ob r ob' nw)) (.many (pars 0 vs) .nil) (.many (parO 0 ob) .nil)) : Big P τ An (.fn f vs ob r none ob' nw) := by
  simp only [Bool.and_eq_true] at hq
  refine Big.of hf hb hq.1.1 hq.1.2 ?_ (vcC_mono (fun e x hh => ?_) (h.run _ Mt.start))
  · have := hq.2
    revert this
    cases (An f).io <;> simp
  · obtain ⟨h0, ws, h1, h2, h3, h4⟩ := hh
    exact ⟨h0, ws, h1, h2, h3, h4⟩
end
end Go.Own

/- Walks in few words: the operations. -/
namespace Go.Own
open Go.RowKit

abbrev I64 (a : Int) : V := .one (.c (.int .i64 a))
abbrev U8 (a : Int) : V := .one (.c (.int .u8 a))
abbrev Bo (b : Bool) : V := .one (.c (.bool b))
abbrev St' (s : List UInt8) : V := .one (.c (.str s))
abbrev Li {α : Type} (f : α → List T) (l : List α) : V := .one (.c (.sl (l.map f)))
abbrev Ag' (l : List T) : V := .one (.ag l)
abbrev Pt (o : Nat) : V := .one (.ptr o 0)

def fOff (τ : TypeId → Option TI) (s : TypeId) (f : Nat) : Option Nat := match tk τ s with
  | some (.struct fs) => (match fs[f]? with | some q => some q.1 | none => none)
  | _ => none
def ldS (τ : TypeId → Option TI) (S : SS V) (O : SS (List T)) (t : TypeId) (v : Operand) : Option V := match τ t, evS S v with
  | some ti, some (.one (.ptr ob p)) => (match O.get ob with | some cells => loadV ti (cells.drop p) | none => none)
  | some ti, some (.one (.cp xs)) => loadV ti xs
  | _, _ => none
def overC : List T → List T → List T
  | [], cs => cs
  | x :: r, _ :: cs => x :: overC r cs
  | _ :: _, [] => []
def setC : Nat → List T → List T → List T
  | 0, xs, cs => overC xs cs
  | p + 1, xs, c :: cs => c :: setC p xs cs
  | _ + 1, _, [] => []
theorem overC_eq : ∀ {xs cs : List T}, xs.length ≤ cs.length → overC xs cs = xs ++ cs.drop xs.length
  | [], cs, _ => rfl
  | x :: r, c :: cs, h => by
    simp only [List.length_cons] at h
    simp only [overC, overC_eq (xs := r) (cs := cs) (by omega), List.length_cons, List.drop_succ_cons, List.cons_append]
  | x :: r, [], h => by simp at h
theorem setC_eq : ∀ {p : Nat} {xs cs : List T}, p + xs.length ≤ cs.length → setC p xs cs = cs.take p ++ xs ++ cs.drop (p + xs.length)
  | 0, xs, cs, h => by simp only [setC, overC_eq (xs := xs) (cs := cs) (by omega), List.take_zero, List.nil_append, Nat.zero_add]
  | p + 1, xs, c :: cs, h => by
    simp only [List.length_cons] at h
    simp only [setC, setC_eq (p := p) (xs := xs) (cs := cs) (by omega), List.take_succ_cons, List.cons_append, show p + 1 + xs.length = (p + xs.length) + 1 by omega, List.drop_succ_cons]
  | p + 1, xs, [], h => by simp at h
def stS (τ : TypeId → Option TI) (F : FA) (S : SS V) (O : SS (List T)) (t : TypeId) (v y : Operand) : Option (Nat × List T) := match τ t, evS S v, (evS S y).bind cellsOfV with
  | some ti, some (.one (.ptr ob p)), some xs => (match O.get ob with
    | some cells => bif Nat.beq xs.length ti.size && Nat.ble (p + xs.length) cells.length && confs (setC p xs cells) (F.obOf ob) then some (ob, setC p xs cells) else none
    | none => none)
  | _, _, _ => none
def zS (τ : TypeId → Option TI) (t : TypeId) : Option (List T) := match τ t with
  | some ⟨_, _, _, z, _⟩ => some z
  | none => none
def elS (τ : TypeId → Option TI) (t : TypeId) : Option TI := match tk τ t with
  | some (.sl e) => τ e
  | _ => none
def elN (τ : TypeId → Option TI) (t : TypeId) : Nat := match elS τ t with
  | some i => i.size
  | none => 0
theorem elS_get {τ : TypeId → Option TI} {t : TypeId} {ei : TI} (h : elS τ t = some ei) : ∃ e, tk τ t = some (.sl e) ∧ τ e = some ei := by
  unfold elS at h
  split at h
  · rename_i e he; exact ⟨e, he, h⟩
  · cases h
def capS (S : SS V) : List Operand → Option (List (Nat × Nat))
  | [] => some []
  | v :: r => match evS S v, capS S r with
    | some (.one (.ptr o off)), some l => some ((o, off) :: l)
    | _, _ => none
def evAll (S : SS V) : List Operand → Option (List V)
  | [] => some []
  | v :: r => match evS S v, evAll S r with
    | some a, some l => some (a :: l)
    | _, _ => none
def inA (S : SS V) (O : SS (List T)) (os : List Nat) : List Operand → Option (List V)
  | [] => some []
  | v :: r => match evS S v, rdS S O v, inA S O os r with
    | some u, some a, some l => bif thereV u then some (a.to (innO os) :: l) else none
    | _, _, _ => none
def plainW : W → Bool
  | .junk => false
  | .ptr _ _ => false
  | .fn _ _ => false
  | .al _ _ => false
  | .pp _ _ _ _ => false
  | _ => true
def plainV : V → Bool
  | .one w => plainW w
  | .tup ws => ws.all plainW
theorem plainW_to {ρ : Nat → Option Nat} {w : W} (h : plainW w = true) : w.to ρ = w := by
  cases w <;> first | rfl | cases h
theorem plainV_to {ρ : Nat → Option Nat} {v : V} (h : plainV v = true) : v.to ρ = v := by
  cases v with
  | one w => exact congrArg V.one (plainW_to h)
  | tup ws =>
    show V.tup (ws.map (W.to ρ)) = _
    rw [show ws.map (W.to ρ) = ws.map id from List.map_congr_left fun w hw => plainW_to (List.all_eq_true.1 h w hw), List.map_id]

theorem fI {s : V} {κ : IntKind} {a b : Int} (h : fits (.one (.c (.int κ a))) s = true) : fits (.one (.c (.int κ b))) s = true := by
  cases s with
  | tup ws => cases h
  | one w => cases w <;> first | (cases h; done) | (rename_i z; cases z <;> first | exact h | rfl | cases h)
theorem fB {s : V} {a b : Bool} (h : fits (.one (.c (.bool a))) s = true) : fits (.one (.c (.bool b))) s = true := by
  cases s with
  | tup ws => cases h
  | one w => cases w <;> first | (cases h; done) | (rename_i z; cases z <;> first | exact h | rfl | cases h)
theorem fS {s : V} {a b : List UInt8} (h : fits (.one (.c (.str a))) s = true) : fits (.one (.c (.str b))) s = true := by
  cases s with
  | tup ws => cases h
  | one w => cases w <;> first | (cases h; done) | (rename_i z; cases z <;> first | exact h | rfl | cases h)
theorem fL {s : V} {a b : List (List T)} (h : fits (.one (.c (.sl a))) s = true) : fits (.one (.c (.sl b))) s = true := by
  cases s with
  | tup ws => cases h
  | one w => cases w <;> first | (cases h; done) | (rename_i z; cases z <;> first | exact h | rfl | cases h)

set_option linter.unusedVariables false
section
variable {P : Program} {τ : TypeId → Option TI} {An : FuncId → FA} {F : FA} {ds : List (Option Nat)} {r : List Oper} {k : Kt} {S : SS V} {O : SS (List T)} {ty : TypeId} {pos : String} {after : Array Edge} {gd : Option (Nat × Bool)} {d : Nat}

theorem evAll_ok {x : D} (hx : Mt S O x) : ∀ {l : List Operand} {vs : List V}, evAll S l = some vs → l.map (ev x.sl) = vs
  | [], vs, h => by cases h; rfl
  | v :: r, vs, h => by
    simp only [evAll] at h
    split at h <;> try cases h
    rename_i a l h1 h2
    simp only [List.map_cons, hx.ev h1, evAll_ok hx h2]
theorem capS_ok {x : D} (hx : Mt S O x) : ∀ {l : List Operand} {cs : List (Nat × Nat)}, capS S l = some cs → capsOf (l.map (ev x.sl)) = some cs
  | [], cs, h => by cases h; rfl
  | v :: r, cs, h => by
    simp only [capS] at h
    split at h <;> try cases h
    rename_i o off l h1 h2
    simp only [List.map_cons, hx.ev h1, capsOf, capS_ok hx h2, Option.map_some]
theorem inA_ok {x : D} (hx : Mt S O x) {os : List Nat} : ∀ {l : List Operand} {vs : List V}, inA S O os l = some vs → l.map (fun v => (evD x v).to (innO os)) = vs ∧ l.all (fun v => thereV (ev x.sl v)) = true
  | [], vs, h => by cases h; exact ⟨rfl, rfl⟩
  | v :: r, vs, h => by
    simp only [inA] at h
    split at h <;> try cases h
    rename_i u a l h0 h1 h2
    obtain ⟨c, h⟩ := cond_some h
    cases h
    obtain ⟨i1, i2⟩ := inA_ok hx h2
    simp only [List.map_cons, hx.rd h1, i1, List.all_cons, hx.ev h0, c, i2, Bool.and_self, and_self]

theorem oNl (h : nxt P τ An F k S O) : Vo P τ An F ds [] k S O := ⟨fun x hx => step_nil (nxt_ok h x hx)⟩
theorem oSu {os : List Oper} {e b : Bool} (t : Nat) (q : e = b) (hc : S.get t = some (.one (.c (.bool e)))) (h : Vo P τ An F ds os k (.cons t (.one (.c (.bool b))) S) O) : Vo P τ An F ds os k S O := ⟨fun x hx => h.run x (hx.su hc (by rw [q]))⟩
/-- Two ways. -/
theorem oIf {ρ : Type} {A B : Option ρ} {r0 : ρ} {e : Bool} (t : Nat) {os : List Oper} (h : (bif e then A else B) = some r0) (hc : S.get t = some (.one (.c (.bool e)))) (h1 : e = true → A = some r0 → Vo P τ An F ds os k (.cons t (.one (.c (.bool true))) S) O) (h0 : e = false → B = some r0 → Vo P τ An F ds os k (.cons t (.one (.c (.bool false))) S) O) : Vo P τ An F ds os k S O := by
  cases e with
  | true => exact ⟨fun x hx => (h1 rfl h).run x (hx.su hc rfl)⟩
  | false => exact ⟨fun x hx => (h0 rfl h).run x (hx.su hc rfl)⟩
/-- A check. -/
theorem oCk {β : Type} {c : Bool} {f : Unit → Option β} {r0 : β} {os : List Oper} (h : (ck c).bind f = some r0) (h1 : c = true → f () = some r0 → Vo P τ An F ds os k S O) : Vo P τ An F ds os k S O := by
  obtain ⟨u, h2, h3⟩ := bind_some h
  exact h1 (ck_of h2) h3

theorem wSk {op : Op} (hg : gS ds S gd = some false) (h : Vo P τ An F ds r k (.cons d (.tup []) S) O) : Vo P τ An F ds (⟨some d, op, ty, pos, after, gd⟩ :: r) k S O :=
  ⟨fun x hx => step_skip (hx.gd hg) rfl (h.run _ (hx.put d _))⟩
theorem wMv {y : Operand} {v : V} (hg : gS ds S gd = some true) (hv : evS S y = some v) (hq : (!(mem d F.al) && thereV v && fits v (F.shOf d)) = true) (h : Vo P τ An F ds r k (.cons d v S) O) : Vo P τ An F ds (⟨some d, .move y, ty, pos, after, gd⟩ :: r) k S O :=
  ⟨fun x hx => mv (hx.gd hg) (hx.ev hv) hq (h.run _ (hx.put d _))⟩
theorem wAs {y : Operand} {v : V} (hg : gS ds S gd = some true) (hv : evS S y = some v) (hq : (thereV v && fits v (F.shOf d)) = true) (h : Vo P τ An F ds r k (.cons d v S) O) : Vo P τ An F ds (⟨some d, .assign y, ty, pos, after, gd⟩ :: r) k S O :=
  ⟨fun x hx => asg (hx.gd hg) (hx.ev hv) hq (h.run _ (hx.put d _))⟩
/-- A constant that stands for a list of another type. -/
theorem wAn {α : Type} (f : α → List T) {y : Operand} (hg : gS ds S gd = some true) (hv : evS S y = some (.one (.c (.sl [])))) (hq : (fits (.one (.c (.sl []))) (F.shOf d)) = true) (h : Vo P τ An F ds r k (.cons d (.one (.c (.sl (([] : List α).map f)))) S) O) : Vo P τ An F ds (⟨some d, .assign y, ty, pos, after, gd⟩ :: r) k S O :=
  ⟨fun x hx => asg (v := .one (.c (.sl (([] : List α).map f)))) (hx.gd hg) (hx.ev hv) (by simpa [thereV] using hq) (h.run _ (hx.put d _))⟩
theorem wAl {t : Nat} {es : List (List T)} (hg : gS ds S gd = some true) (hm : mem d F.al = true) (hv : S.get t = some (.one (.c (.sl es)))) (hf : fits (.one (.al (.s t 0 0) [])) (F.shOf d) = true) (h : Vo P τ An F ds r k (.cons d (.one (.al (.s t 0 0) [])) S) O) : Vo P τ An F ds (⟨some d, .move (.tmp t), ty, pos, after, gd⟩ :: r) k S O :=
  ⟨fun x hx => als (hx.gd hg) hm (hx.sl t _ hv) hf (h.run _ (hx.put d _))⟩
theorem wPk {c y z : Operand} {b : Bool} {t : T} (hg : gS ds S gd = some true) (hc : evS S c = some (.one (.c (.bool b)))) (hv : evS S (bif b then y else z) = some (.one (.c t))) (hq : (scal t && fits (.one (.c t)) (F.shOf d)) = true) (h : Vo P τ An F ds r k (.cons d (.one (.c t)) S) O) : Vo P τ An F ds (⟨some d, .pick c y z, ty, pos, after, gd⟩ :: r) k S O :=
  ⟨fun x hx => pk (hx.gd hg) (hx.ev hc) (hx.ev hv) hq (h.run _ (hx.put d _))⟩

/-! reads -/
set_option linter.unusedVariables false
theorem wBi {op : BinOp} {t t2 : TypeId} {y z : Operand} (w : T) {v1 v2 : V} (hg : gS ds S gd = some true) (h1 : rdS S O y = some v1) (h2 : rdS S O z = some v2) (hr : binV τ op t v1 v2 = some w) (hf : fits (.one (.c w)) (F.shOf d) = true) (h : Vo P τ An F ds r k (.cons d (.one (.c w)) S) O) : Vo P τ An F ds (⟨some d, .binOp op t y z t2, ty, pos, after, gd⟩ :: r) k S O :=
  ⟨fun x hx => s_bin (hx.gd hg) (hx.rd h1) (hx.rd h2) hr hf (h.run _ (hx.put d _))⟩
section
variable {t t2 : TypeId} {y z : Operand} {κ : IntKind} {a b : Int}
theorem bin_int {op : BinOp} {w : T} (h1 : op ≠ .shl) (h2 : op ≠ .shr) (h : intOp op κ a b = some w) : binV τ op t (.one (.c (.int κ a))) (.one (.c (.int κ b))) = some w := by
  cases op <;> first | exact absurd rfl h1 | exact absurd rfl h2 | (simp only [binV, if_true]; exact h)
theorem wAdd (hg : gS ds S gd = some true) (h1 : rdS S O y = some (.one (.c (.int κ a)))) (h2 : rdS S O z = some (.one (.c (.int κ b)))) (hf : fits (.one (.c (.int κ 0))) (F.shOf d) = true) (h : Vo P τ An F ds r k (.cons d (.one (.c (.int κ (κ.wrap (a + b))))) S) O) : Vo P τ An F ds (⟨some d, .binOp .add t y z t2, ty, pos, after, gd⟩ :: r) k S O :=
  wBi _ hg h1 h2 (bin_int nofun nofun rfl) (fI hf) h
theorem wSub (hg : gS ds S gd = some true) (h1 : rdS S O y = some (.one (.c (.int κ a)))) (h2 : rdS S O z = some (.one (.c (.int κ b)))) (hf : fits (.one (.c (.int κ 0))) (F.shOf d) = true) (h : Vo P τ An F ds r k (.cons d (.one (.c (.int κ (κ.wrap (a - b))))) S) O) : Vo P τ An F ds (⟨some d, .binOp .sub t y z t2, ty, pos, after, gd⟩ :: r) k S O :=
  wBi _ hg h1 h2 (bin_int nofun nofun rfl) (fI hf) h
theorem wMul (hg : gS ds S gd = some true) (h1 : rdS S O y = some (.one (.c (.int κ a)))) (h2 : rdS S O z = some (.one (.c (.int κ b)))) (hf : fits (.one (.c (.int κ 0))) (F.shOf d) = true) (h : Vo P τ An F ds r k (.cons d (.one (.c (.int κ (κ.wrap (a * b))))) S) O) : Vo P τ An F ds (⟨some d, .binOp .mul t y z t2, ty, pos, after, gd⟩ :: r) k S O :=
  wBi _ hg h1 h2 (bin_int nofun nofun rfl) (fI hf) h
theorem wEq (hg : gS ds S gd = some true) (h1 : rdS S O y = some (.one (.c (.int κ a)))) (h2 : rdS S O z = some (.one (.c (.int κ b)))) (hf : fits (Bo true) (F.shOf d) = true) (h : Vo P τ An F ds r k (.cons d (Bo (decide (a = b))) S) O) : Vo P τ An F ds (⟨some d, .binOp .eql t y z t2, ty, pos, after, gd⟩ :: r) k S O :=
  wBi _ hg h1 h2 (bin_int nofun nofun rfl) (fB hf) h
theorem wNe (hg : gS ds S gd = some true) (h1 : rdS S O y = some (.one (.c (.int κ a)))) (h2 : rdS S O z = some (.one (.c (.int κ b)))) (hf : fits (Bo true) (F.shOf d) = true) (h : Vo P τ An F ds r k (.cons d (Bo (!decide (a = b))) S) O) : Vo P τ An F ds (⟨some d, .binOp .neq t y z t2, ty, pos, after, gd⟩ :: r) k S O :=
  wBi _ hg h1 h2 (bin_int nofun nofun rfl) (fB hf) h
theorem wLt (hg : gS ds S gd = some true) (h1 : rdS S O y = some (.one (.c (.int κ a)))) (h2 : rdS S O z = some (.one (.c (.int κ b)))) (hf : fits (Bo true) (F.shOf d) = true) (h : Vo P τ An F ds r k (.cons d (Bo (decide (a < b))) S) O) : Vo P τ An F ds (⟨some d, .binOp .lss t y z t2, ty, pos, after, gd⟩ :: r) k S O :=
  wBi _ hg h1 h2 (bin_int nofun nofun rfl) (fB hf) h
theorem wLe (hg : gS ds S gd = some true) (h1 : rdS S O y = some (.one (.c (.int κ a)))) (h2 : rdS S O z = some (.one (.c (.int κ b)))) (hf : fits (Bo true) (F.shOf d) = true) (h : Vo P τ An F ds r k (.cons d (Bo (decide (a ≤ b))) S) O) : Vo P τ An F ds (⟨some d, .binOp .leq t y z t2, ty, pos, after, gd⟩ :: r) k S O :=
  wBi _ hg h1 h2 (bin_int nofun nofun rfl) (fB hf) h
theorem wGt (hg : gS ds S gd = some true) (h1 : rdS S O y = some (.one (.c (.int κ a)))) (h2 : rdS S O z = some (.one (.c (.int κ b)))) (hf : fits (Bo true) (F.shOf d) = true) (h : Vo P τ An F ds r k (.cons d (Bo (decide (b < a))) S) O) : Vo P τ An F ds (⟨some d, .binOp .gtr t y z t2, ty, pos, after, gd⟩ :: r) k S O :=
  wBi _ hg h1 h2 (bin_int nofun nofun rfl) (fB hf) h
theorem wGe (hg : gS ds S gd = some true) (h1 : rdS S O y = some (.one (.c (.int κ a)))) (h2 : rdS S O z = some (.one (.c (.int κ b)))) (hf : fits (Bo true) (F.shOf d) = true) (h : Vo P τ An F ds r k (.cons d (Bo (decide (b ≤ a))) S) O) : Vo P τ An F ds (⟨some d, .binOp .geq t y z t2, ty, pos, after, gd⟩ :: r) k S O :=
  wBi _ hg h1 h2 (bin_int nofun nofun rfl) (fB hf) h
theorem wEs {a b : List UInt8} (hg : gS ds S gd = some true) (h1 : rdS S O y = some (.one (.c (.str a)))) (h2 : rdS S O z = some (.one (.c (.str b)))) (hf : fits (Bo true) (F.shOf d) = true) (h : Vo P τ An F ds r k (.cons d (Bo (decide (a = b))) S) O) : Vo P τ An F ds (⟨some d, .binOp .eql t y z t2, ty, pos, after, gd⟩ :: r) k S O :=
  wBi _ hg h1 h2 rfl (fB hf) h
theorem wNs {a b : List UInt8} (hg : gS ds S gd = some true) (h1 : rdS S O y = some (.one (.c (.str a)))) (h2 : rdS S O z = some (.one (.c (.str b)))) (hf : fits (Bo true) (F.shOf d) = true) (h : Vo P τ An F ds r k (.cons d (Bo (!decide (a = b))) S) O) : Vo P τ An F ds (⟨some d, .binOp .neq t y z t2, ty, pos, after, gd⟩ :: r) k S O :=
  wBi _ hg h1 h2 rfl (fB hf) h
theorem wCat {a b : List UInt8} (hc : decide (a.length + b.length ≤ 9223372036854775807) = true) (hg : gS ds S gd = some true) (h1 : rdS S O y = some (.one (.c (.str a)))) (h2 : rdS S O z = some (.one (.c (.str b)))) (hf : fits (St' []) (F.shOf d) = true) (h : Vo P τ An F ds r k (.cons d (St' (a ++ b)) S) O) : Vo P τ An F ds (⟨some d, .binOp .add t y z t2, ty, pos, after, gd⟩ :: r) k S O :=
  wBi (.str (a ++ b)) hg h1 h2 (by have := of_decide_eq_true hc; simp [binV, strOp, this]) (fS hf) h
theorem wQuo (hc : (!decide (b = 0)) = true) (hg : gS ds S gd = some true) (h1 : rdS S O y = some (.one (.c (.int κ a)))) (h2 : rdS S O z = some (.one (.c (.int κ b)))) (hf : fits (.one (.c (.int κ 0))) (F.shOf d) = true) (h : Vo P τ An F ds r k (.cons d (.one (.c (.int κ (κ.wrap (Int.tdiv a b))))) S) O) : Vo P τ An F ds (⟨some d, .binOp .quo t y z t2, ty, pos, after, gd⟩ :: r) k S O :=
  wBi (.int κ (κ.wrap (Int.tdiv a b))) hg h1 h2 (by have : ¬ b = 0 := by simpa using hc
                                                    simp [binV, intOp, this]) (fI hf) h
theorem wRem (hc : (!decide (b = 0)) = true) (hg : gS ds S gd = some true) (h1 : rdS S O y = some (.one (.c (.int κ a)))) (h2 : rdS S O z = some (.one (.c (.int κ b)))) (hf : fits (.one (.c (.int κ 0))) (F.shOf d) = true) (h : Vo P τ An F ds r k (.cons d (.one (.c (.int κ (Int.tmod a b)))) S) O) : Vo P τ An F ds (⟨some d, .binOp .rem t y z t2, ty, pos, after, gd⟩ :: r) k S O :=
  wBi (.int κ (Int.tmod a b)) hg h1 h2 (by have : ¬ b = 0 := by simpa using hc
                                           simp [binV, intOp, this]) (fI hf) h
theorem wNot {b : Bool} (hg : gS ds S gd = some true) (h1 : rdS S O y = some (.one (.c (.bool b)))) (hf : fits (Bo true) (F.shOf d) = true) (h : Vo P τ An F ds r k (.cons d (Bo (!b)) S) O) : Vo P τ An F ds (⟨some d, .unOp .not t y, ty, pos, after, gd⟩ :: r) k S O :=
  ⟨fun x hx => rd (.bool !b) (hx.gd hg) rfl rfl (by simp only [readV, hx.rd h1]) (fB hf) (h.run _ (hx.put d _))⟩
theorem wNeg (hg : gS ds S gd = some true) (h1 : rdS S O y = some (.one (.c (.int κ a)))) (hf : fits (.one (.c (.int κ 0))) (F.shOf d) = true) (h : Vo P τ An F ds r k (.cons d (.one (.c (.int κ (κ.wrap (0 - a))))) S) O) : Vo P τ An F ds (⟨some d, .unOp .neg t y, ty, pos, after, gd⟩ :: r) k S O :=
  ⟨fun x hx => rd (.int κ (κ.wrap (0 - a))) (hx.gd hg) rfl rfl (by simp only [readV, hx.rd h1]) (fI hf) (h.run _ (hx.put d _))⟩
theorem wCv {κ' : IntKind} {u : TK} (hg : gS ds S gd = some true) (ht : tk τ t = some u) (ht2 : tk τ t2 = some (.int κ')) (h1 : rdS S O y = some (.one (.c (.int κ a)))) (hf : fits (.one (.c (.int κ' 0))) (F.shOf d) = true) (h : Vo P τ An F ds r k (.cons d (.one (.c (.int κ' (κ'.wrap a)))) S) O) : Vo P τ An F ds (⟨some d, .convert t t2 y, ty, pos, after, gd⟩ :: r) k S O :=
  ⟨fun x hx => rd (.int κ' (κ'.wrap a)) (hx.gd hg) rfl rfl (by simp only [readV, hx.rd h1, ht, ht2]) (fI hf) (h.run _ (hx.put d _))⟩
theorem wLs {s : List UInt8} (hg : gS ds S gd = some true) (ht : tk τ t = some .str) (h1 : rdS S O y = some (.one (.c (.str s)))) (hf : fits (I64 0) (F.shOf d) = true) (h : Vo P τ An F ds r k (.cons d (I64 s.length) S) O) : Vo P τ An F ds (⟨some d, .call { callee := .builtin .len, args := #[y], argTypes := #[t] }, ty, pos, after, gd⟩ :: r) k S O :=
  ⟨fun x hx => rd (.int .i64 s.length) (hx.gd hg) rfl rfl (by simp only [readV, hx.rd h1, ht]) (fI hf) (h.run _ (hx.put d _))⟩
theorem wLn {α : Type} {L : List α} {f : α → List T} {e : TypeId} (hg : gS ds S gd = some true) (ht : tk τ t = some (.sl e)) (h1 : rdS S O y = some (.one (.c (.sl (L.map f))))) (hf : fits (I64 0) (F.shOf d) = true) (h : Vo P τ An F ds r k (.cons d (I64 L.length) S) O) : Vo P τ An F ds (⟨some d, .call { callee := .builtin .len, args := #[y], argTypes := #[t] }, ty, pos, after, gd⟩ :: r) k S O :=
  ⟨fun x hx => ln (hx.gd hg) ht (hx.rd h1) hf (h.run _ (hx.put d _))⟩
theorem wIxs {β : Type} {f : Int → Option β} {r0 : β} {s : List UInt8} (h : (ixs s a).bind f = some r0) (hg : gS ds S gd = some true) (ht : tk τ t = some .str) (h1 : rdS S O y = some (.one (.c (.str s)))) (h2 : rdS S O z = some (.one (.c (.int κ a)))) (hf : fits (U8 0) (F.shOf d) = true) (hn : ∀ b, f b = some r0 → Vo P τ An F ds r k (.cons d (U8 b) S) O) : Vo P τ An F ds (⟨some d, .index t y z, ty, pos, after, gd⟩ :: r) k S O := by
  obtain ⟨b, h3, h4⟩ := bind_some h
  exact ⟨fun x hx => rd (.int .u8 b) (hx.gd hg) rfl rfl (rd_ixs h3 ht (hx.rd h1) (hx.rd h2)) (fI hf) ((hn b h4).run _ (hx.put d _))⟩
end

inductive BdS (S : SS V) (O : SS (List T)) : Option Operand → Option Int → Prop
  | no : BdS S O none none
  | so {y : Operand} {k : IntKind} {n : Int} (h : rdS S O y = some (.one (.c (.int k n)))) : BdS S O (some y) (some n)
theorem BdS.bd {x : D} (hx : Mt S O x) {y : Option Operand} {n : Option Int} (h : BdS S O y n) : Bd x y n := by
  cases h with
  | no => exact .none
  | so h => exact .some (hx.rd h)
theorem wSs {β : Type} {t : TypeId} {y : Operand} {lo hi : Option Operand} {l g : Option Int} {s : List UInt8} {f : List UInt8 → Option β} {r0 : β} (h : (sub s l g).bind f = some r0) (hg : gS ds S gd = some true) (ht : tk τ t = some .str) (h1 : rdS S O y = some (.one (.c (.str s)))) (h2 : BdS S O lo l) (h3 : BdS S O hi g) (hf : fits (St' []) (F.shOf d) = true) (hn : ∀ s', f s' = some r0 → Vo P τ An F ds r k (.cons d (St' s') S) O) : Vo P τ An F ds (⟨some d, .slice t y lo hi none, ty, pos, after, gd⟩ :: r) k S O := by
  obtain ⟨b, h5, h4⟩ := bind_some h
  exact ⟨fun x hx => rd (.str b) (hx.gd hg) rfl rfl (rd_subs h5 ht (hx.rd h1) (h2.bd hx) (h3.bd hx)) (fS hf) ((hn b h4).run _ (hx.put d _))⟩
theorem wSl {α β : Type} {t e : TypeId} {ei : TI} {y : Operand} {lo hi : Option Operand} {l g : Option Int} {s : List α} {rf : α → List T} {f : List α → Option β} {r0 : β} (h : (sub s l g).bind f = some r0) (hg : gS ds S gd = some true) (ht : tk τ t = some (.sl e)) (he : τ e = some ei) (h1 : rdS S O y = some (.one (.c (.sl (s.map rf))))) (h2 : BdS S O lo l) (h3 : BdS S O hi g) (hsz : ∀ a, (rf a).length = ei.size) (hf : fits (.one (.c (.sl []))) (F.shOf d) = true) (hn : ∀ s', f s' = some r0 → Vo P τ An F ds r k (.cons d (Li rf s') S) O) : Vo P τ An F ds (⟨some d, .slice t y lo hi none, ty, pos, after, gd⟩ :: r) k S O := by
  obtain ⟨b, h5, h4⟩ := bind_some h
  refine ⟨fun x hx => rd (.sl (b.map rf)) (hx.gd hg) rfl rfl (rd_sub h5 ht he (hx.rd h1) (h2.bd hx) (h3.bd hx) hsz) (fL hf) ((hn b h4).run _ (hx.put d _))⟩

/-! addresses, objects -/
theorem wNc {v : Operand} {w : V} (hg : gS ds S gd = some true) (hv : evS S v = some w) (hp : (isP w && fits w (F.shOf d)) = true) (h : Vo P τ An F ds r k (.cons d w S) O) : Vo P τ An F ds (⟨some d, .nilCheck v, ty, pos, after, gd⟩ :: r) k S O := by
  simp only [Bool.and_eq_true] at hp
  exact ⟨fun x hx => nlc (hx.gd hg) (hx.ev hv) hp.1 hp.2 (h.run _ (hx.put d _))⟩
theorem wFd {s : TypeId} {v : Operand} {f off : Nat} {w u : V} (hg : gS ds S gd = some true) (hq : fOff τ s f = some off) (hv : evS S v = some w) (hw : fieldV off w = some u) (hf : fits u (F.shOf d) = true) (h : Vo P τ An F ds r k (.cons d u S) O) : Vo P τ An F ds (⟨some d, .fieldAddr s v f, ty, pos, after, gd⟩ :: r) k S O := by
  unfold fOff at hq
  split at hq <;> try cases hq
  rename_i fs hs
  split at hq <;> try cases hq
  rename_i q hf2
  exact ⟨fun x hx => fld (hx.gd hg) hs hf2 (hx.ev hv) hw hf (h.run _ (hx.put d _))⟩
theorem wLd {t : TypeId} {v : Operand} {w : V} (hg : gS ds S gd = some true) (hl : ldS τ S O t v = some w) (hq : (!(mem d F.al) && fits w (F.shOf d)) = true) (h : Vo P τ An F ds r k (.cons d w S) O) : Vo P τ An F ds (⟨some d, .load t v, ty, pos, after, gd⟩ :: r) k S O := by
  simp only [Bool.and_eq_true, Bool.not_eq_true'] at hq
  refine ⟨fun x hx => ?_⟩
  unfold ldS at hl
  split at hl <;> try cases hl
  · rename_i ti ob p h1 h2
    split at hl <;> try cases hl
    rename_i cells h3
    exact ldo (hx.gd hg) h1 hq.1 (hx.ev h2) (hx.ob _ _ h3) hl hq.2 (h.run _ (hx.put d _))
  · rename_i ti xs h1 h2
    exact ldc (hx.gd hg) h1 (hx.ev h2) hl hq.2 (h.run _ (hx.put d _))
theorem wSt {t : TypeId} {v y : Operand} {ob : Nat} {cs : List T} (hg : gS ds S gd = some true) (hs : stS τ F S O t v y = some (ob, cs)) (h : Vo P τ An F ds r k S (.cons ob cs O)) : Vo P τ An F ds (⟨none, .store t v y, ty, pos, after, gd⟩ :: r) k S O := by
  refine ⟨fun x hx => ?_⟩
  unfold stS at hs
  split at hs <;> try cases hs
  rename_i ti ob' p xs h1 h2 h3
  split at hs <;> try cases hs
  rename_i cells h4
  obtain ⟨c, hs⟩ := cond_some hs
  cases hs
  have hy : cellsOfV (ev x.sl y) = some xs := by
    obtain ⟨u, h5, h6⟩ := Option.bind_eq_some_iff.1 h3
    rw [hx.ev h5]; exact h6
  have c2 := c
  simp only [Bool.and_eq_true] at c2
  exact sto (cs := setC p xs cells) (hx.gd hg) h1 (hx.ev h2) hy (hx.ob _ _ h4) c (setC_eq (Nat.le_of_ble_eq_true c2.1.2)).symm (h.run _ (hx.setO ob _))
theorem wAc {t : TypeId} {cs : List T} (hg : gS ds S gd = some true) (hz : zS τ t = some cs) (hc : confs cs (F.obOf d) = true) (h : Vo P τ An F ds r k (.cons d (.one (.ptr d 0)) S) (.cons d cs O)) : Vo P τ An F ds (⟨some d, .alloc t, ty, pos, after, gd⟩ :: r) k S O := by
  unfold zS at hz
  split at hz <;> try cases hz
  rename_i h1
  exact ⟨fun x hx => alc (hx.gd hg) h1 rfl hc (h.run _ ((hx.put d _).setO d _))⟩
/-- The same, the cells told by typed data. -/
theorem wAz {t : TypeId} {cs' : List T} (cs : List T) (hg : gS ds S gd = some true) (hz : zS τ t = some cs') (he : cs' = cs) (hc : confs cs (F.obOf d) = true) (h : Vo P τ An F ds r k (.cons d (.one (.ptr d 0)) S) (.cons d cs O)) : Vo P τ An F ds (⟨some d, .alloc t, ty, pos, after, gd⟩ :: r) k S O := by
  subst he; exact wAc hg hz hc h
theorem wBx {e : TypeId} {t : Nat} {xs : List T} {w : V} (hg : gS ds S gd = some true) (hv : S.get t = some w) (hw : cellsOfV w = some xs) (hc : confs xs (F.obOf d) = true) (h : Vo P τ An F ds r k (.cons d (.one (.ptr d 0)) S) (.cons d xs O)) : Vo P τ An F ds (⟨some d, .box e (.tmp t), ty, pos, after, gd⟩ :: r) k S O :=
  ⟨fun x hx => bx (hx.gd hg) (hx.sl _ _ hv) hw hc (h.run _ ((hx.put d _).setO d _))⟩
def zipV : List (Nat × Operand) → List V → List (Nat × V)
  | p :: r, v :: q => (p.1, v) :: zipV r q
  | _, _ => []
theorem zipV_ok {x : D} : ∀ {l : List (Nat × Operand)} {vs : List V}, (l.map (·.2)).map (ev x.sl) = vs → l.map (fun p => (p.1, ev x.sl p.2)) = zipV l vs
  | [], vs, h => by cases h; rfl
  | p :: r, vs, h => by
    cases vs with
    | nil => cases h
    | cons v vs =>
      simp only [List.map_cons, List.cons.injEq] at h
      simp only [List.map_cons, zipV, h.1, zipV_ok h.2]
theorem wBd {t : TypeId} {fs : List (Nat × Nat × Bool)} {parts : Array (Nat × Operand)} {vs : List V} {z : List T} (rs : List T) (hg : gS ds S gd = some true) (hk : tk τ t = some (.struct fs)) (hz : zS τ t = some z) (hv : evAll S (parts.toList.map (·.2)) = some vs) (hb : buildT fs z (zipV parts.toList vs) = some rs) (hf : fits (.one (.ag rs)) (F.shOf d) = true) (h : Vo P τ An F ds r k (.cons d (.one (.ag rs)) S) O) : Vo P τ An F ds (⟨some d, .build t parts, ty, pos, after, gd⟩ :: r) k S O := by
  unfold zS at hz
  split at hz <;> try cases hz
  rename_i a b c k' h1
  simp only [tk, h1, Option.map_some, Option.some.injEq] at hk
  exact ⟨fun x hx => bld (hx.gd hg) h1 hk (by rw [zipV_ok (evAll_ok hx hv)]; exact hb) hf (h.run _ (hx.put d _))⟩
theorem wEt {j t : Nat} {ws : List W} {w : W} (hg : gS ds S gd = some true) (hv : S.get t = some (.tup ws)) (hw : ws[j]? = some w) (hf : fits (.one w) (F.shOf d) = true) (h : Vo P τ An F ds r k (.cons d (.one w) S) O) : Vo P τ An F ds (⟨some d, .extract (.tmp t) j, ty, pos, after, gd⟩ :: r) k S O :=
  ⟨fun x hx => ext (hx.gd hg) (hx.sl _ _ hv) hw hf (h.run _ (hx.put d _))⟩
theorem wFn {f : FuncId} {caps : Array Operand} {cs : List (Nat × Nat)} (hg : gS ds S gd = some true) (hc : capS S caps.toList = some cs) (hf : fits (.one (.fn f cs)) (F.shOf d) = true) (h : Vo P τ An F ds r k (.cons d (.one (.fn f cs)) S) O) : Vo P τ An F ds (⟨some d, .makeFunc (.func f) #[] caps, ty, pos, after, gd⟩ :: r) k S O :=
  ⟨fun x hx => mkf (hx.gd hg) (capS_ok hx hc) hf (h.run _ (hx.put d _))⟩

/-! slices -/
theorem wIx {α β : Type} {L : List α} {f : α → List T} {g : α → Option β} {r0 : β} {t : TypeId} {ei : TI} {v i : Operand} {κ : IntKind} {n : Int} {row : α → List T} (h : (ix L n).bind g = some r0) (hg : gS ds S gd = some true) (he : elS τ t = some ei) (hv : evS S v = some (.one (.c (.sl (L.map f))))) (hi : evS S i = some (.one (.c (.int κ n)))) (hrow : ∀ a, f a = row a) (hq : ∀ a, (Nat.beq (row a).length ei.size && fits (.one (.cp (row a))) (F.shOf d)) = true)
    (hn : ∀ a, g a = some r0 → Vo P τ An F ds r k (.cons d (.one (.cp (row a))) S) O) : Vo P τ An F ds (⟨some d, .indexAddr t v i, ty, pos, after, gd⟩ :: r) k S O := by
  obtain ⟨a, h1, h2⟩ := bind_some h
  obtain ⟨e, q1, q2⟩ := elS_get he
  have q := hq a
  simp only [Bool.and_eq_true] at q
  exact ⟨fun x hx => ixa h1 (hx.gd hg) q1 q2 (hx.ev hv) (hx.ev hi) (hrow a) (Nat.eq_of_beq_eq_true q.1) q.2 ((hn a h2).run _ (hx.put d _))⟩
theorem wLt' {α : Type} {L : List α} {f : α → List T} {t : TypeId} {n : Nat} {parts : Array (Nat × Operand)} {ei : TI} {vs : List V} {es : List (List T)} (hg : gS ds S gd = some true) (he : elS τ t = some ei) (hv : evAll S (parts.toList.map (·.2)) = some vs) (hes : cellsAll vs = some es) (hL : L.map f = es)
    (hq : (partsOk 0 parts.toList && Nat.beq n parts.toList.length && es.all (fun e => Nat.beq e.length ei.size) && Nat.ble (n * ei.size) 16777216) = true) (hf : fits (.one (.c (.sl []))) (F.shOf d) = true) (h : Vo P τ An F ds r k (.cons d (Li f L) S) O) : Vo P τ An F ds (⟨some d, .buildSlice t n parts, ty, pos, after, gd⟩ :: r) k S O := by
  obtain ⟨e, q1, q2⟩ := elS_get he
  exact ⟨fun x hx => lit (hx.gd hg) q1 q2 (by rw [evAll_ok hx hv]; exact hes) hL hq hf (h.run _ (hx.put d _))⟩
theorem wAp {α β : Type} {L1 L2 : List α} {g : List α → Option β} {r0 : β} {f : α → List T} {b : Nat} {t u : TypeId} {ei : TI} {v y : Operand} {vy : V} {es2 : List (List T)} (h : (app2 b L1 L2).bind g = some r0) (hg : gS ds S gd = some true) (he : elS τ t = some ei) (hb : Nat.beq ei.bytes b = true) (hv : evS S v = some (.one (.c (.sl (L1.map f))))) (hy : evS S y = some vy) (hes : esOf vy = some es2) (hL : es2 = L2.map f) (hu : elS τ u = some ei)
    (hu2 : strOrSl τ u (match tk τ t with | some (.sl e) => e | _ => 0) = true) (hsz : ∀ a, (Nat.beq (f a).length ei.size && confs (f a) ei.zero) = true) (hf : fits (.one (.c (.sl []))) (F.shOf d) = true) (hn : ∀ L3, g L3 = some r0 → Vo P τ An F ds r k (.cons d (Li f L3) S) O) : Vo P τ An F ds (⟨some d, .call { callee := .builtin .append, args := #[v, y], argTypes := #[t, u] }, ty, pos, after, gd⟩ :: r) k S O := by
  obtain ⟨a, h1, h2⟩ := bind_some h
  obtain ⟨e, q1, q2⟩ := elS_get he
  rw [q1] at hu2
  refine ⟨fun x hx => apd h1 (hx.gd hg) q1 q2 (Nat.eq_of_beq_eq_true hb) (hx.ev hv) (by rw [hx.ev hy]; exact hes) hL hu2 (fun a => ?_) (fun a => ?_) hf ((hn a h2).run _ (hx.put d _))⟩
  · have := hsz a; simp only [Bool.and_eq_true] at this; exact Nat.eq_of_beq_eq_true this.1
  · have := hsz a; simp only [Bool.and_eq_true] at this; exact this.2
theorem wMk {α : Type} {z : α} {f : α → List T} {t : TypeId} {ei : TI} {v y : Operand} {n : Int} {κ κ' : IntKind} {b : Nat} (hc : decide (0 ≤ n ∧ n ≤ maxLen ∧ b * n ≤ 281474976710656) = true) (hg : gS ds S gd = some true) (he : elS τ t = some ei) (hb : ei.bytes = b) (hv : evS S v = some (.one (.c (.int κ n)))) (hy : evS S y = some (.one (.c (.int κ' n)))) (hz : f z = ei.zero) (hf : fits (.one (.c (.sl []))) (F.shOf d) = true)
    (h : Vo P τ An F ds r k (.cons d (Li f (List.replicate n.toNat z)) S) O) : Vo P τ An F ds (⟨some d, .makeSlice t v y, ty, pos, after, gd⟩ :: r) k S O := by
  subst hb
  obtain ⟨e, q1, q2⟩ := elS_get he
  exact ⟨fun x hx => mks (of_decide_eq_true hc) (hx.gd hg) q1 q2 (hx.ev hv) (hx.ev hy) hz hf (h.run _ (hx.put d _))⟩

/-! places inside slices -/
theorem wLa {t : TypeId} {v : Operand} {ti : TI} {ob p : Nat} {cells : List T} (hg : gS ds S gd = some true) (ht : τ t = some ti) (hm : mem d F.al = true) (hv : evS S v = some (.one (.ptr ob p))) (hc : O.get ob = some cells) (hq : (isSlT τ t && slT (cells[p]?)) = true) (hf : fits (.one (.al (.oc ob p) [])) (F.shOf d) = true) (h : Vo P τ An F ds r k (.cons d (.one (.al (.oc ob p) [])) S) O) :
    Vo P τ An F ds (⟨some d, .load t v, ty, pos, after, gd⟩ :: r) k S O := ⟨fun x hx => alo (hx.gd hg) ht hm (hx.ev hv) (hx.ob _ _ hc) hq hf (h.run _ (hx.put d _))⟩
end
end Go.Own

/- Walks in few words: places inside slices, calls. -/
namespace Go.Own
open Go.RowKit
set_option linter.unusedVariables false

def zerok : Loc → Bool
  | .s _ k j => Nat.beq k 0 && Nat.beq j 0
  | _ => true
theorem zerok_of {l : Loc} (h : zerok l = true) : ∀ i k j, l = .s i k j → k = 0 := fun i k j e => by
  subst e
  simp only [zerok, Bool.and_eq_true] at h
  exact Nat.eq_of_beq_eq_true h.1
/-- The state with another datum at a place. -/
def updS (S : SS V) : Loc → T → SS V
  | .s i _ _, z => .cons i (.one (.c z)) S
  | _, _ => S
def updO (O : SS (List T)) : Loc → T → SS (List T)
  | .oc o j, z => (match O.get o with | some cs => .cons o (cs.set j z) O | none => O)
  | _, _ => O
def isC : SS V → Loc → Bool
  | S, .s i _ _ => (match S.get i with | some (.one (.c _)) => true | _ => false)
  | _, _ => true

def toStr : List Int → Option (List UInt8)
  | [] => some []
  | n :: r => if 0 ≤ n ∧ n < 256 then (toStr r).map (UInt8.ofNat n.toNat :: ·) else none

section
variable {P : Program} {τ : TypeId → Option TI} {An : FuncId → FA} {F : FA} {ds : List (Option Nat)} {r : List Oper} {k : Kt} {S : SS V} {O : SS (List T)} {ty : TypeId} {pos : String} {after : Array Edge} {gd : Option (Nat × Bool)} {d : Nat}

theorem Mt.upd {x : D} (hx : Mt S O x) {l : Loc} {y z : T} (hk : zerok l = true) (hc : isC S l = true) (ha : atS S O l = some y) : Mt (updS S l z) (updO O l z) (x.upd l z) := by
  cases l with
  | s i k j =>
    simp only [zerok, Bool.and_eq_true] at hk
    have e1 := Nat.eq_of_beq_eq_true hk.1
    have e2 := Nat.eq_of_beq_eq_true hk.2
    subst e1; subst e2
    simp only [isC] at hc
    split at hc <;> try cases hc
    rename_i w hw
    rw [upd_slot (hx.sl i _ hw)]
    exact hx.put i _
  | oc o j =>
    simp only [atS, Option.bind_eq_some_iff] at ha
    obtain ⟨cs, h1, h2⟩ := ha
    rw [upd_cell (hx.ob o _ h1)]
    simp only [updS, updO, h1]
    exact hx.setO o _
  | _ => cases ha
theorem wIp {α β : Type} {L : List α} {f : α → List T} {g : α → Option β} {r0 : β} {t : TypeId} {ei : TI} {v i : Operand} {l : Loc} {κ : IntKind} {n : Int} (h : (ix L n).bind g = some r0) (hg : gS ds S gd = some true) (he : elS τ t = some ei) (hv : evS S v = some (.one (.al l []))) (hk : zerok l = true) (hr : atS S O l = some (.sl (L.map f))) (hi : evS S i = some (.one (.c (.int κ n)))) (hsz : ∀ a, (f a).length = ei.size)
    (hf : fits (.one (.pp l [] 0 0)) (F.shOf d) = true) (hn : ∀ a, ix L n = some a → g a = some r0 → Vo P τ An F ds r k (.cons d (.one (.pp l [] n.toNat 0)) S) O) : Vo P τ An F ds (⟨some d, .indexAddr t v i, ty, pos, after, gd⟩ :: r) k S O := by
  obtain ⟨a, h1, h2⟩ := bind_some h
  obtain ⟨e, q1, q2⟩ := elS_get he
  exact ⟨fun x hx => ixp h1 (hx.gd hg) q1 q2 (hx.ev hv) (hx.at (zerok_of hk) hr) (hx.ev hi) (hsz a) hf ((hn a h1 h2).run _ (hx.put d _))⟩
/-- A store into an element: the row's cells with the new ones between. -/
theorem wSp {α : Type} {L : List α} {f : α → List T} {a v' : α} {i : Int} {t : TypeId} {v y : Operand} {ti : TI} {l : Loc} {m j : Nat} {xs : List T} (hix : ix L i = some a) (hg : gS ds S gd = some true) (ht : τ t = some ti) (hv : evS S v = some (.one (.pp l [] m j))) (hm : m = i.toNat) (hk : (zerok l && isC S l) = true) (hr : atS S O l = some (.sl (L.map f))) (hy : (evS S y).bind cellsOfV = some xs) (hq : (Nat.beq xs.length ti.size && Nat.ble (j + xs.length) (f a).length) = true)
    (hrow : (f a).take j ++ xs ++ (f a).drop (j + xs.length) = f v') (h : Vo P τ An F ds r k (updS S l (.sl ((L.set i.toNat v').map f))) (updO O l (.sl ((L.set i.toNat v').map f)))) : Vo P τ An F ds (⟨none, .store t v y, ty, pos, after, gd⟩ :: r) k S O := by
  subst hm
  simp only [Bool.and_eq_true] at hk
  refine ⟨fun x hx => step_run (x1 := x.upd l (.sl ((L.set i.toNat v').map f))) (hx.gd hg) rfl ?_ (h.run _ (hx.upd hk.1 hk.2 hr))⟩
  refine storeP hix ht (hx.ev hv) (hx.at (zerok_of hk.1) hr) ?_ hq hrow
  obtain ⟨u, h5, h6⟩ := Option.bind_eq_some_iff.1 hy
  rw [hx.ev h5]; exact h6

theorem wAe {y : Operand} {v' : V} (v : V) (hg : gS ds S gd = some true) (hv : evS S y = some v') (he : v' = v) (hq : (thereV v && fits v (F.shOf d)) = true) (h : Vo P τ An F ds r k (.cons d v S) O) : Vo P τ An F ds (⟨some d, .assign y, ty, pos, after, gd⟩ :: r) k S O := by
  subst he; exact wAs hg hv hq h
theorem wMe {y : Operand} {v' : V} (v : V) (hg : gS ds S gd = some true) (hv : evS S y = some v') (he : v' = v) (hq : (!(mem d F.al) && thereV v && fits v (F.shOf d)) = true) (h : Vo P τ An F ds r k (.cons d v S) O) : Vo P τ An F ds (⟨some d, .move y, ty, pos, after, gd⟩ :: r) k S O := by
  subst he; exact wMv hg hv hq h
theorem bytesOf_toStr : ∀ l : List Int, bytesOf (l.map fun a => [T.int .u8 a]) = toStr l
  | [] => rfl
  | n :: r => by simp only [List.map_cons, bytesOf, toStr, bytesOf_toStr r]
theorem wTs {β : Type} {t u e : TypeId} {y : Operand} {L : List Int} {f : Int → List T} {g : List UInt8 → Option β} {r0 : β} (h : (toStr L).bind g = some r0) (hg : gS ds S gd = some true) (ht : tk τ t = some (.sl e)) (hu : (tk τ u = some .str) ∧ tk τ e = some (.int .u8)) (h1 : rdS S O y = some (.one (.c (.sl (L.map f))))) (hr : ∀ a, f a = [.int .u8 a]) (hf : fits (St' []) (F.shOf d) = true) (hn : ∀ s', g s' = some r0 → Vo P τ An F ds r k (.cons d (St' s') S) O) : Vo P τ An F ds (⟨some d, .convert t u y, ty, pos, after, gd⟩ :: r) k S O := by
  obtain ⟨b, h5, h4⟩ := bind_some h
  have hfn : f = fun a => [.int .u8 a] := funext hr
  subst hfn
  exact ⟨fun x hx => rd (.str b) (hx.gd hg) rfl rfl (by simp only [readV, ht, hu.1, hu.2, hx.rd h1, bytesOf_toStr, h5, Option.map_some]) (fS hf) ((hn b h4).run _ (hx.put d _))⟩

/-! calls -/
def nil' {α : Type} : List α → Bool
  | [] => true
  | _ => false
/-- A call that is handed no objects. -/
theorem wC0 {ρ β : Type} {o : Option ρ} {g : ρ → Option β} {r0 : β} {f : FuncId} {vs : List V} {rr : ρ → V} {c : Call} {v : Operand} {caps : List (Nat × Nat)} (h : o.bind g = some r0) (hB : ∀ q, o = some q → Big P τ An (.fn f vs [] (rr q) none [] none)) (hg : gS ds S gd = some true) (hc : calleeV ⟨some d, .call c, ty, pos, after, gd⟩ = some (c, v)) (hx : evS S v = some (.one (.fn f caps)))
    (hk : (nil' (osOf F c v) && nil' caps && (ndOf F (some d)).isNone) = true) (hvs : inA S O [] c.args.toList = some vs) (hf : ∀ q, (plainV (rr q) && fits (rr q) (F.shOf d)) = true) (hn : ∀ q, g q = some r0 → Vo P τ An F ds r k (.cons d (rr q) S) O) : Vo P τ An F ds (⟨some d, .call c, ty, pos, after, gd⟩ :: r) k S O := by
  obtain ⟨q, h1, h2⟩ := bind_some h
  have hq := hf q
  simp only [Bool.and_eq_true] at hk hq
  obtain ⟨⟨k1, k2⟩, k3⟩ := hk
  have e1 : osOf F c v = [] := by revert k1; cases osOf F c v <;> simp [nil']
  have e2 : caps = [] := by revert k2; cases caps <;> simp [nil']
  have e3 : ndOf F (some d) = none := by revert k3; cases ndOf F (some d) <;> simp
  subst e2
  refine ⟨fun x hm => ?_⟩
  obtain ⟨i1, i2⟩ := inA_ok hm hvs
  exact cl0 (v' := rr q) (hB q h1) (hm.gd hg) hc (hm.ev hx) i2 e1 e3 (by simp only [inV, List.map_nil, List.append_nil]; exact i1) (plainV_to hq.1) hq.2 ((hn q h2).run _ (hm.put d _))
/-- A call that is handed one object. -/
theorem wC1 {ρ β : Type} {o : Option ρ} {g : ρ → Option β} {r0 : β} {f : FuncId} {vs : List V} {rr : ρ → V} {c : Call} {v : Operand} {caps : List (Nat × Nat)} {ob : Nat} {cs : List T} {cs' : ρ → List T} (h : o.bind g = some r0) (hB : ∀ q, o = some q → Big P τ An (.fn f vs [cs] (rr q) none [cs' q] none)) (hg : gS ds S gd = some true) (hc : calleeV ⟨some d, .call c, ty, pos, after, gd⟩ = some (c, v)) (hx : evS S v = some (.one (.fn f caps)))
    (hk : osOf F c v = [ob]) (hnd : ndOf F (some d) = none) (hob : O.get ob = some cs) (hvs : inA S O [ob] c.args.toList = some (vs.take c.args.size)) (hcs : (vs.drop c.args.size) = caps.map (fun c => (V.one (.ptr c.1 c.2)).to (innO [ob]))) (hf : ∀ q, (plainV (rr q) && fits (rr q) (F.shOf d) && confs (cs' q) (F.obOf ob)) = true) (hn : ∀ q, g q = some r0 → Vo P τ An F ds r k (.cons d (rr q) S) (.cons ob (cs' q) O)) : Vo P τ An F ds (⟨some d, .call c, ty, pos, after, gd⟩ :: r) k S O := by
  obtain ⟨q, h1, h2⟩ := bind_some h
  have hq := hf q
  simp only [Bool.and_eq_true] at hq
  refine ⟨fun x hm => ?_⟩
  obtain ⟨i1, i2⟩ := inA_ok hm hvs
  exact cl1 (v' := rr q) (hB q h1) (hm.gd hg) hc (hm.ev hx) i2 hk hnd (hm.ob _ _ hob) (by simp only [inV]; rw [i1, ← hcs, List.take_append_drop]) (plainV_to hq.1.1) (by rw [hq.1.2, hq.2]; rfl) ((hn q h2).run _ ((hm.put d _).setO ob _))
/-- A call that makes an object. -/
theorem wCn {ρ β : Type} {o : Option ρ} {g : ρ → Option β} {r0 : β} {f : FuncId} {vs : List V} {rr : V} {c : Call} {v : Operand} {caps : List (Nat × Nat)} {cs : ρ → List T} (h : o.bind g = some r0) (hB : ∀ q, o = some q → Big P τ An (.fn f vs [] rr none [] (some (cs q)))) (hg : gS ds S gd = some true) (hc : calleeV ⟨some d, .call c, ty, pos, after, gd⟩ = some (c, v)) (hx : evS S v = some (.one (.fn f caps)))
    (hk : (nil' (osOf F c v) && nil' caps) = true) (hnd : ndOf F (some d) = some d) (hvs : inA S O [] c.args.toList = some vs) (hv' : rr.to (outN [] (some d)) = .one (.ptr d 0)) (hf : ∀ q, (fits (.one (.ptr d 0)) (F.shOf d) && confs (cs q) (F.obOf d)) = true) (hn : ∀ q, g q = some r0 → Vo P τ An F ds r k (.cons d (.one (.ptr d 0)) S) (.cons d (cs q) O)) : Vo P τ An F ds (⟨some d, .call c, ty, pos, after, gd⟩ :: r) k S O := by
  obtain ⟨q, h1, h2⟩ := bind_some h
  simp only [Bool.and_eq_true] at hk
  obtain ⟨k1, k2⟩ := hk
  have e1 : osOf F c v = [] := by revert k1; cases osOf F c v <;> simp [nil']
  have e2 : caps = [] := by revert k2; cases caps <;> simp [nil']
  subst e2
  refine ⟨fun x hm => ?_⟩
  obtain ⟨i1, i2⟩ := inA_ok hm hvs
  exact cln (hB q h1) (hm.gd hg) hc (hm.ev hx) i2 e1 hnd (by simp only [inV, List.map_nil, List.append_nil]; exact i1) hv' (hf q) ((hn q h2).run _ ((hm.put d _).setO d _))
end
end Go.Own

/- Walks in few words: one condition for each step. -/
namespace Go.Own
open Go.RowKit
set_option linter.unusedVariables false

section
variable (ds : List (Option Nat)) (F : FA) (τ : TypeId → Option TI) (S : SS V) (O : SS (List T)) (gd : Option (Nat × Bool)) (d : Nat)
def xG {α : Type} (a : Option α) : Option α := match gS ds S gd with
  | some true => a
  | _ => none
def xMvS (y : Operand) : Option V := xG ds S gd (match evS S y with
  | some v => bif !(mem d F.al) && thereV v && fits v (F.shOf d) then some v else none
  | none => none)
def xAsS (y : Operand) : Option V := xG ds S gd (match evS S y with
  | some v => bif thereV v && fits v (F.shOf d) then some v else none
  | none => none)
def xLdS (t : TypeId) (v : Operand) : Option V := xG ds S gd (match ldS τ S O t v with
  | some w => bif !(mem d F.al) && fits w (F.shOf d) then some w else none
  | none => none)
def xFdS (s : TypeId) (v : Operand) (f : Nat) : Option V := xG ds S gd (match fOff τ s f, evS S v with
  | some off, some w => (match fieldV off w with
    | some u => bif fits u (F.shOf d) then some u else none
    | none => none)
  | _, _ => none)
def xStS (t : TypeId) (v y : Operand) : Option (Nat × List T) := xG ds S gd (stS τ F S O t v y)
def xI2 (y z : Operand) : Option (IntKind × Int × Int) := xG ds S gd (match rdS S O y, rdS S O z with
  | some (.one (.c (.int κ a))), some (.one (.c (.int κ' b))) => bif decide (κ = κ') && fits (.one (.c (.int κ 0))) (F.shOf d) then some (κ, a, b) else none
  | _, _ => none)
def xC2 (y z : Operand) : Option (IntKind × Int × Int) := xG ds S gd (match rdS S O y, rdS S O z with
  | some (.one (.c (.int κ a))), some (.one (.c (.int κ' b))) => bif decide (κ = κ') && fits (Bo true) (F.shOf d) then some (κ, a, b) else none
  | _, _ => none)
def xS2 (y z : Operand) : Option (List UInt8 × List UInt8) := xG ds S gd (match rdS S O y, rdS S O z with
  | some (.one (.c (.str a))), some (.one (.c (.str b))) => bif fits (Bo true) (F.shOf d) then some (a, b) else none
  | _, _ => none)
def xNo (y : Operand) : Option Bool := xG ds S gd (match rdS S O y with
  | some (.one (.c (.bool a))) => bif fits (Bo true) (F.shOf d) then some a else none
  | _ => none)
def xPkS (c y z : Operand) : Option T := xG ds S gd (match evS S c with
  | some (.one (.c (.bool b))) => (match evS S (bif b then y else z) with
    | some (.one (.c t)) => bif scal t && fits (.one (.c t)) (F.shOf d) then some t else none
    | _ => none)
  | _ => none)
def xEtS (t j : Nat) : Option W := xG ds S gd (match S.get t with
  | some (.tup ws) => (match ws[j]? with
    | some w => bif fits (.one w) (F.shOf d) then some w else none
    | none => none)
  | _ => none)
def xNcS (v : Operand) : Option V := xG ds S gd (match evS S v with
  | some w => bif isP w && fits w (F.shOf d) then some w else none
  | none => none)
def xBxS (t : Nat) : Option (List T) := xG ds S gd (match (S.get t).bind cellsOfV with
  | some xs => bif confs xs (F.obOf d) then some xs else none
  | none => none)
def xAcS (t : TypeId) : Option (List T) := xG ds S gd (match zS τ t with
  | some cs => bif confs cs (F.obOf d) then some cs else none
  | none => none)
end

section
variable {P : Program} {τ : TypeId → Option TI} {An : FuncId → FA} {F : FA} {ds : List (Option Nat)} {r : List Oper} {k : Kt} {S : SS V} {O : SS (List T)} {ty : TypeId} {pos : String} {after : Array Edge} {gd : Option (Nat × Bool)} {d : Nat}
theorem xG_of {α : Type} {a : Option α} {b : α} (h : xG ds S gd a = some b) : gS ds S gd = some true ∧ a = some b := by
  unfold xG at h
  split at h
  · rename_i e; exact ⟨e, h⟩
  · cases h
theorem xMv {y : Operand} {v : V} (hq : xMvS ds F S gd d y = some v) (h : Vo P τ An F ds r k (.cons d v S) O) : Vo P τ An F ds (⟨some d, .move y, ty, pos, after, gd⟩ :: r) k S O := by
  obtain ⟨hg, hq⟩ := xG_of hq
  split at hq <;> try cases hq
  rename_i u e
  obtain ⟨c, hq⟩ := cond_some hq
  cases hq
  exact wMv hg e c h
theorem xAs {y : Operand} {v : V} (hq : xAsS ds F S gd d y = some v) (h : Vo P τ An F ds r k (.cons d v S) O) : Vo P τ An F ds (⟨some d, .assign y, ty, pos, after, gd⟩ :: r) k S O := by
  obtain ⟨hg, hq⟩ := xG_of hq
  split at hq <;> try cases hq
  rename_i u e
  obtain ⟨c, hq⟩ := cond_some hq
  cases hq
  exact wAs hg e c h
theorem xLd {t : TypeId} {v : Operand} {w : V} (hq : xLdS ds F τ S O gd d t v = some w) (h : Vo P τ An F ds r k (.cons d w S) O) : Vo P τ An F ds (⟨some d, .load t v, ty, pos, after, gd⟩ :: r) k S O := by
  obtain ⟨hg, hq⟩ := xG_of hq
  split at hq <;> try cases hq
  rename_i u e
  obtain ⟨c, hq⟩ := cond_some hq
  cases hq
  exact wLd hg e c h
theorem xFd {s : TypeId} {v : Operand} {f : Nat} {u : V} (hq : xFdS ds F τ S gd d s v f = some u) (h : Vo P τ An F ds r k (.cons d u S) O) : Vo P τ An F ds (⟨some d, .fieldAddr s v f, ty, pos, after, gd⟩ :: r) k S O := by
  obtain ⟨hg, hq⟩ := xG_of hq
  split at hq <;> try cases hq
  rename_i off w e1 e2
  split at hq <;> try cases hq
  rename_i u' e3
  obtain ⟨c, hq⟩ := cond_some hq
  cases hq
  exact wFd hg e1 e2 e3 c h
theorem xSt {t : TypeId} {v y : Operand} {ob : Nat} {cs : List T} (hq : xStS ds F τ S O gd t v y = some (ob, cs)) (h : Vo P τ An F ds r k S (.cons ob cs O)) : Vo P τ An F ds (⟨none, .store t v y, ty, pos, after, gd⟩ :: r) k S O := by
  obtain ⟨hg, hq⟩ := xG_of hq
  exact wSt hg hq h
section
variable {t t2 : TypeId} {y z : Operand} {κ : IntKind} {a b : Int}
theorem xI2_of (hq : xI2 ds F S O gd d y z = some (κ, a, b)) : gS ds S gd = some true ∧ rdS S O y = some (.one (.c (.int κ a))) ∧ rdS S O z = some (.one (.c (.int κ b))) ∧ fits (.one (.c (.int κ 0))) (F.shOf d) = true := by
  obtain ⟨hg, hq⟩ := xG_of hq
  split at hq <;> try cases hq
  rename_i e1 e2
  obtain ⟨c, hq2⟩ := cond_some hq
  clear hq
  simp only [Bool.and_eq_true, decide_eq_true_eq] at c
  obtain ⟨rfl, c⟩ := c
  cases hq2
  exact ⟨hg, e1, e2, c⟩
theorem xC2_of (hq : xC2 ds F S O gd d y z = some (κ, a, b)) : gS ds S gd = some true ∧ rdS S O y = some (.one (.c (.int κ a))) ∧ rdS S O z = some (.one (.c (.int κ b))) ∧ fits (Bo true) (F.shOf d) = true := by
  obtain ⟨hg, hq⟩ := xG_of hq
  split at hq <;> try cases hq
  rename_i e1 e2
  obtain ⟨c, hq2⟩ := cond_some hq
  clear hq
  simp only [Bool.and_eq_true, decide_eq_true_eq] at c
  obtain ⟨rfl, c⟩ := c
  cases hq2
  exact ⟨hg, e1, e2, c⟩
theorem xS2_of {a b : List UInt8} (hq : xS2 ds F S O gd d y z = some (a, b)) : gS ds S gd = some true ∧ rdS S O y = some (.one (.c (.str a))) ∧ rdS S O z = some (.one (.c (.str b))) ∧ fits (Bo true) (F.shOf d) = true := by
  obtain ⟨hg, hq⟩ := xG_of hq
  split at hq <;> try cases hq
  rename_i e1 e2
  obtain ⟨c, hq⟩ := cond_some hq
  cases hq
  exact ⟨hg, e1, e2, c⟩
theorem xAdd (hq : xI2 ds F S O gd d y z = some (κ, a, b)) (h : Vo P τ An F ds r k (.cons d (.one (.c (.int κ (κ.wrap (a + b))))) S) O) : Vo P τ An F ds (⟨some d, .binOp .add t y z t2, ty, pos, after, gd⟩ :: r) k S O := by
  obtain ⟨h1, h2, h3, h4⟩ := xI2_of hq; exact wAdd h1 h2 h3 h4 h
theorem xSub (hq : xI2 ds F S O gd d y z = some (κ, a, b)) (h : Vo P τ An F ds r k (.cons d (.one (.c (.int κ (κ.wrap (a - b))))) S) O) : Vo P τ An F ds (⟨some d, .binOp .sub t y z t2, ty, pos, after, gd⟩ :: r) k S O := by
  obtain ⟨h1, h2, h3, h4⟩ := xI2_of hq; exact wSub h1 h2 h3 h4 h
theorem xMul (hq : xI2 ds F S O gd d y z = some (κ, a, b)) (h : Vo P τ An F ds r k (.cons d (.one (.c (.int κ (κ.wrap (a * b))))) S) O) : Vo P τ An F ds (⟨some d, .binOp .mul t y z t2, ty, pos, after, gd⟩ :: r) k S O := by
  obtain ⟨h1, h2, h3, h4⟩ := xI2_of hq; exact wMul h1 h2 h3 h4 h
theorem xEq (hq : xC2 ds F S O gd d y z = some (κ, a, b)) (h : Vo P τ An F ds r k (.cons d (Bo (decide (a = b))) S) O) : Vo P τ An F ds (⟨some d, .binOp .eql t y z t2, ty, pos, after, gd⟩ :: r) k S O := by
  obtain ⟨h1, h2, h3, h4⟩ := xC2_of hq; exact wEq h1 h2 h3 h4 h
theorem xNe (hq : xC2 ds F S O gd d y z = some (κ, a, b)) (h : Vo P τ An F ds r k (.cons d (Bo (!decide (a = b))) S) O) : Vo P τ An F ds (⟨some d, .binOp .neq t y z t2, ty, pos, after, gd⟩ :: r) k S O := by
  obtain ⟨h1, h2, h3, h4⟩ := xC2_of hq; exact wNe h1 h2 h3 h4 h
theorem xLt (hq : xC2 ds F S O gd d y z = some (κ, a, b)) (h : Vo P τ An F ds r k (.cons d (Bo (decide (a < b))) S) O) : Vo P τ An F ds (⟨some d, .binOp .lss t y z t2, ty, pos, after, gd⟩ :: r) k S O := by
  obtain ⟨h1, h2, h3, h4⟩ := xC2_of hq; exact wLt h1 h2 h3 h4 h
theorem xLe (hq : xC2 ds F S O gd d y z = some (κ, a, b)) (h : Vo P τ An F ds r k (.cons d (Bo (decide (a ≤ b))) S) O) : Vo P τ An F ds (⟨some d, .binOp .leq t y z t2, ty, pos, after, gd⟩ :: r) k S O := by
  obtain ⟨h1, h2, h3, h4⟩ := xC2_of hq; exact wLe h1 h2 h3 h4 h
theorem xGt (hq : xC2 ds F S O gd d y z = some (κ, a, b)) (h : Vo P τ An F ds r k (.cons d (Bo (decide (b < a))) S) O) : Vo P τ An F ds (⟨some d, .binOp .gtr t y z t2, ty, pos, after, gd⟩ :: r) k S O := by
  obtain ⟨h1, h2, h3, h4⟩ := xC2_of hq; exact wGt h1 h2 h3 h4 h
theorem xGe (hq : xC2 ds F S O gd d y z = some (κ, a, b)) (h : Vo P τ An F ds r k (.cons d (Bo (decide (b ≤ a))) S) O) : Vo P τ An F ds (⟨some d, .binOp .geq t y z t2, ty, pos, after, gd⟩ :: r) k S O := by
  obtain ⟨h1, h2, h3, h4⟩ := xC2_of hq; exact wGe h1 h2 h3 h4 h
theorem xEs {a b : List UInt8} (hq : xS2 ds F S O gd d y z = some (a, b)) (h : Vo P τ An F ds r k (.cons d (Bo (decide (a = b))) S) O) : Vo P τ An F ds (⟨some d, .binOp .eql t y z t2, ty, pos, after, gd⟩ :: r) k S O := by
  obtain ⟨h1, h2, h3, h4⟩ := xS2_of hq; exact wEs h1 h2 h3 h4 h
theorem xNs {a b : List UInt8} (hq : xS2 ds F S O gd d y z = some (a, b)) (h : Vo P τ An F ds r k (.cons d (Bo (!decide (a = b))) S) O) : Vo P τ An F ds (⟨some d, .binOp .neq t y z t2, ty, pos, after, gd⟩ :: r) k S O := by
  obtain ⟨h1, h2, h3, h4⟩ := xS2_of hq; exact wNs h1 h2 h3 h4 h
theorem xNot {b : Bool} (hq : xNo ds F S O gd d y = some b) (h : Vo P τ An F ds r k (.cons d (Bo (!b)) S) O) : Vo P τ An F ds (⟨some d, .unOp .not t y, ty, pos, after, gd⟩ :: r) k S O := by
  obtain ⟨hg, hq⟩ := xG_of hq
  split at hq <;> try cases hq
  rename_i e1
  obtain ⟨c, hq⟩ := cond_some hq
  cases hq
  exact wNot hg e1 c h
end
theorem xPk {c y z : Operand} {t : T} (hq : xPkS ds F S gd d c y z = some t) (h : Vo P τ An F ds r k (.cons d (.one (.c t)) S) O) : Vo P τ An F ds (⟨some d, .pick c y z, ty, pos, after, gd⟩ :: r) k S O := by
  obtain ⟨hg, hq⟩ := xG_of hq
  split at hq <;> try cases hq
  rename_i b e1
  split at hq <;> try cases hq
  rename_i t' e2
  obtain ⟨c, hq⟩ := cond_some hq
  cases hq
  exact wPk hg e1 e2 c h
theorem xEt {j t : Nat} {w : W} (hq : xEtS ds F S gd d t j = some w) (h : Vo P τ An F ds r k (.cons d (.one w) S) O) : Vo P τ An F ds (⟨some d, .extract (.tmp t) j, ty, pos, after, gd⟩ :: r) k S O := by
  obtain ⟨hg, hq⟩ := xG_of hq
  split at hq <;> try cases hq
  rename_i ws e1
  split at hq <;> try cases hq
  rename_i w' e2
  obtain ⟨c, hq⟩ := cond_some hq
  cases hq
  exact wEt hg e1 e2 c h
theorem xNc {v : Operand} {w : V} (hq : xNcS ds F S gd d v = some w) (h : Vo P τ An F ds r k (.cons d w S) O) : Vo P τ An F ds (⟨some d, .nilCheck v, ty, pos, after, gd⟩ :: r) k S O := by
  obtain ⟨hg, hq⟩ := xG_of hq
  split at hq <;> try cases hq
  rename_i w' e1
  obtain ⟨c, hq⟩ := cond_some hq
  cases hq
  exact wNc hg e1 c h
theorem xBx {e : TypeId} {t : Nat} {xs : List T} (hq : xBxS ds F S gd d t = some xs) (h : Vo P τ An F ds r k (.cons d (.one (.ptr d 0)) S) (.cons d xs O)) : Vo P τ An F ds (⟨some d, .box e (.tmp t), ty, pos, after, gd⟩ :: r) k S O := by
  obtain ⟨hg, hq⟩ := xG_of hq
  split at hq <;> try cases hq
  rename_i xs' e1
  obtain ⟨u, e2, e3⟩ := Option.bind_eq_some_iff.1 e1
  obtain ⟨c, hq⟩ := cond_some hq
  cases hq
  exact wBx hg e2 e3 c h
theorem xAc {t : TypeId} {cs : List T} (hq : xAcS ds F τ S gd d t = some cs) (h : Vo P τ An F ds r k (.cons d (.one (.ptr d 0)) S) (.cons d cs O)) : Vo P τ An F ds (⟨some d, .alloc t, ty, pos, after, gd⟩ :: r) k S O := by
  obtain ⟨hg, hq⟩ := xG_of hq
  split at hq <;> try cases hq
  rename_i cs' e1
  obtain ⟨c, hq⟩ := cond_some hq
  cases hq
  exact wAc hg e1 c h
/-- The same, the cells told by typed data. -/
theorem xAz {t : TypeId} (cs : List T) (hq : xAcS ds F τ S gd d t = some cs) (h : Vo P τ An F ds r k (.cons d (.one (.ptr d 0)) S) (.cons d cs O)) : Vo P τ An F ds (⟨some d, .alloc t, ty, pos, after, gd⟩ :: r) k S O := xAc hq h
theorem xLn {α : Type} {L : List α} {f : α → List T} {t : TypeId} {y : Operand} (hq : (gS ds S gd, isSlT τ t && fits (I64 0) (F.shOf d), rdS S O y) = (some true, true, some (.one (.c (.sl (L.map f)))))) (h : Vo P τ An F ds r k (.cons d (I64 L.length) S) O) : Vo P τ An F ds (⟨some d, .call { callee := .builtin .len, args := #[y], argTypes := #[t] }, ty, pos, after, gd⟩ :: r) k S O := by
  simp only [Prod.mk.injEq, Bool.and_eq_true] at hq
  obtain ⟨h1, ⟨h2, h3⟩, h4⟩ := hq
  unfold isSlT at h2
  split at h2
  · rename_i e he; exact wLn h1 he h4 h3 h
  · cases h2
theorem xLs {s : List UInt8} {t : TypeId} {y : Operand} (hq : (gS ds S gd, tk τ t, fits (I64 0) (F.shOf d), rdS S O y) = (some true, some .str, true, some (.one (.c (.str s))))) (h : Vo P τ An F ds r k (.cons d (I64 s.length) S) O) : Vo P τ An F ds (⟨some d, .call { callee := .builtin .len, args := #[y], argTypes := #[t] }, ty, pos, after, gd⟩ :: r) k S O := by
  simp only [Prod.mk.injEq] at hq
  obtain ⟨h1, h2, h3, h4⟩ := hq
  exact wLs h1 h2 h4 h3 h
/-- A call that is handed no objects. -/
theorem xC0 {ρ β : Type} {o : Option ρ} {g : ρ → Option β} {r0 : β} {f : FuncId} {vs : List V} {rr : ρ → V} {c : Call} {v : Operand} {caps : List (Nat × Nat)} (h : o.bind g = some r0) (hB : ∀ {q}, o = some q → Big P τ An (.fn f vs [] (rr q) none [] none))
    (hq : (gS ds S gd, calleeV ⟨some d, .call c, ty, pos, after, gd⟩, evS S v, nil' (osOf F c v) && nil' caps && (ndOf F (some d)).isNone, inA S O [] c.args.toList) = (some true, some (c, v), some (.one (.fn f caps)), true, some vs)) (hn : ∀ q, g q = some r0 → Vo P τ An F ds r k (.cons d (rr q) S) O) (hf : ∀ q, (plainV (rr q) && fits (rr q) (F.shOf d)) = true := by exact fun _ => rfl) : Vo P τ An F ds (⟨some d, .call c, ty, pos, after, gd⟩ :: r) k S O := by
  simp only [Prod.mk.injEq] at hq
  obtain ⟨h1, h2, h3, h4, h5⟩ := hq
  exact wC0 h (fun _ => hB) h1 h2 h3 h4 h5 hf hn
/-- A call that is handed one object. -/
theorem xC1 {ρ β : Type} {o : Option ρ} {g : ρ → Option β} {r0 : β} {f : FuncId} {vs : List V} {rr : ρ → V} {c : Call} {v : Operand} {caps : List (Nat × Nat)} {ob : Nat} {cs : List T} {cs' : ρ → List T} (h : o.bind g = some r0) (hB : ∀ {q}, o = some q → Big P τ An (.fn f vs [cs] (rr q) none [cs' q] none))
    (hq : (gS ds S gd, calleeV ⟨some d, .call c, ty, pos, after, gd⟩, evS S v, osOf F c v, ndOf F (some d), O.get ob, inA S O [ob] c.args.toList, vs.drop c.args.size) = (some true, some (c, v), some (.one (.fn f caps)), [ob], none, some cs, some (vs.take c.args.size), caps.map (fun c => (V.one (.ptr c.1 c.2)).to (innO [ob])))) (hn : ∀ q, g q = some r0 → Vo P τ An F ds r k (.cons d (rr q) S) (.cons ob (cs' q) O)) (hf : ∀ q, (plainV (rr q) && fits (rr q) (F.shOf d) && confs (cs' q) (F.obOf ob)) = true := by exact fun _ => rfl) : Vo P τ An F ds (⟨some d, .call c, ty, pos, after, gd⟩ :: r) k S O := by
  simp only [Prod.mk.injEq] at hq
  obtain ⟨h1, h2, h3, h4, h5, h6, h7, h8⟩ := hq
  exact wC1 h (fun _ => hB) h1 h2 h3 h4 h5 h6 h7 h8 hf hn
theorem xIx {α β : Type} {L : List α} {f : α → List T} {g : α → Option β} {r0 : β} {t : TypeId} {ei : TI} {v i : Operand} {κ : IntKind} {n : Int} {row : α → List T} (h : (ix L n).bind g = some r0) (hrow : ∀ a, f a = row a) (hq : (gS ds S gd, elS τ t, evS S v, evS S i) = (some true, some ei, some (.one (.c (.sl (L.map f)))), some (.one (.c (.int κ n)))))
    (hn : ∀ a, g a = some r0 → Vo P τ An F ds r k (.cons d (.one (.cp (row a))) S) O) (hf : ∀ a, (Nat.beq (row a).length ei.size && fits (.one (.cp (row a))) (F.shOf d)) = true := by exact fun _ => rfl) : Vo P τ An F ds (⟨some d, .indexAddr t v i, ty, pos, after, gd⟩ :: r) k S O := by
  simp only [Prod.mk.injEq] at hq
  obtain ⟨h1, h2, h3, h4⟩ := hq
  exact wIx h h1 h2 h3 h4 hrow hf hn

/-! regions' ends -/
theorem oC {b : Code} (h : Vc P τ An F b k S O) : Vo P τ An F ds [] (.seq b k) S O := oNl h
theorem oRs {id : Nat} {ops : List Oper} {dr : Bool} {b : Code} (h : Vo P τ An F (ops.map (·.dst)) ops (.seq b k) S O) : Vo P τ An F ds [] (.seq (.seq (.region id ops.toArray dr) b) k) S O := oNl (cRs h)
end
end Go.Own

/- A row's arguments: what is read of them becomes what the slots tell. -/
namespace Go.Own
open Go.RowKit

def kOk (q : K) (x : T) : Bool := match q with
  | .F => true
  | .S => scal x
  | _ => false
def ksOk (f : Nat → K) : Nat → List T → Bool
  | _, [] => true
  | j, x :: r => kOk (f j) x && ksOk f (j + 1) r
theorem ksOk_of {f : Nat → K} : ∀ {l : List T} {j0 : Nat}, ksOk f j0 l = true → ∀ {j : Nat} {x : T}, l[j]? = some x → kOk (f (j0 + j)) x = true
  | [], _, _, j, x, h => by simp at h
  | p :: r, j0, h, 0, x, h2 => by
    simp only [ksOk, Bool.and_eq_true] at h
    simp only [List.getElem?_cons_zero, Option.some.injEq] at h2
    subst h2; exact h.1
  | p :: r, j0, h, j + 1, x, h2 => by
    simp only [ksOk, Bool.and_eq_true] at h
    simp only [List.getElem?_cons_succ] at h2
    have := ksOk_of h.2 h2
    rwa [show j0 + 1 + j = j0 + (j + 1) by omega] at this
theorem lf_of {w : World} {q : K} {l : Loc} {c : Value} {x : T} (hk : kOk q x = true) (h : Rd (frz G.old w) w c x) : LF G.old w q l c x := by
  cases q with
  | F => exact h
  | S => exact ⟨hk, h.nowhere hk⟩
  | _ => cases hk
/-- A struct that came in. -/
theorem rv_ag {w : World} {cs : Array Value} {xs : List T} {κ : Nat → Nat → K} {l : Nat → Nat → Loc} (h : CR w cs.toList xs) (hk : ksOk (κ 0) 0 xs = true) : RV G.old w κ l (.agg cs) (.one (.ag xs)) := by
  obtain ⟨h1, h2⟩ := h
  refine ⟨cs, rfl, by simpa using h1, fun j x hx => ?_⟩
  have hj : j < cs.toList.length := by rw [h1]; exact (List.getElem?_eq_some_iff.1 hx).1
  obtain ⟨n1, n2⟩ := h2 j _ x (List.getElem?_eq_getElem hj) hx
  refine ⟨cs.toList[j], by simp at hj ⊢, n1, lf_of ?_ n2⟩
  have := ksOk_of hk hx
  rwa [Nat.zero_add] at this
/-- Any other value that came in. -/
theorem rv_c {w : World} {v : Value} {x : T} {κ : Nat → Nat → K} {l : Nat → Nat → Loc} (h : CR w [v] [x]) (hk : kOk (κ 0 0) x = true) : RV G.old w κ l v (.one (.c x)) := by
  obtain ⟨n1, n2⟩ := h.2 0 v x rfl rfl
  exact ⟨n1, lf_of hk n2⟩
theorem cells_one {v : Value} (h : ∀ cs, v ≠ .agg cs) : v.cells = #[v] := by
  cases v <;> first | rfl | exact absurd rfl (h _)
end Go.Own

/- Reading at an element of a slice that lies in a place. -/
namespace Go.Own
open Go.RowKit
set_option linter.unusedVariables false
section
variable {P : Program} {τ : TypeId → Option TI} {An : FuncId → FA} {F : FA} {ds : List (Option Nat)} {r : List Oper} {k : Kt} {S : SS V} {O : SS (List T)} {ty : TypeId} {pos : String} {after : Array Edge} {gd : Option (Nat × Bool)} {d : Nat}
theorem wLp {α : Type} {L : List α} {f : α → List T} {a : α} {i : Int} {t : TypeId} {v : Operand} {ti : TI} {l : Loc} {m j : Nat} {cs : List T} {w : V} (hix : ix L i = some a) (hg : gS ds S gd = some true) (ht : τ t = some ti) (hv : evS S v = some (.one (.pp l [] m j))) (hm : m = i.toNat) (hk : zerok l = true) (hr : atS S O l = some (.sl (L.map f))) (hal : mem d F.al = false) (hc : f a = cs) (hl : loadV ti (cs.drop j) = some w) (hf : fits w (F.shOf d) = true)
    (h : Vo P τ An F ds r k (.cons d w S) O) : Vo P τ An F ds (⟨some d, .load t v, ty, pos, after, gd⟩ :: r) k S O := by
  subst hm hc
  unfold ix at hix
  split at hix <;> try cases hix
  have hrw : (L.map f)[i.toNat]? = some (f a) := by rw [List.getElem?_map, hix]; rfl
  refine ⟨fun x hx => step_run (x1 := x.put d w) (hx.gd hg) rfl ?_ (h.run _ (hx.put d w))⟩
  show dLoad τ F x d t v (mem d F.al) = _
  unfold dLoad
  simp only [ht, hx.ev hv, hal, hx.at (zerok_of hk) hr, Option.bind_some, nav, hrw, cond_false, hl]
  exact putD_eq hf
end
end Go.Own
