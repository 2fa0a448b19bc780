/- A calculus for runs on plain data (part 3): whoever runs code on data, with its owners checked, runs the program. No conditions. -/
import Derived.Test.YtgeomhdbckjkcaaOwn1
import Derived.LoopN
set_option linter.unusedVariables false
set_option linter.unusedSimpArgs false
set_option linter.unnecessarySimpa false
/- A call, told without the data: what is asked of it. -/
namespace Go.Own
open Go.RowKit

def handRow (ext : Bool) (f : Nat → K) : Nat → List K → Bool
 | _, [] => true
 | j, q :: r => (f j).hand ext q && handRow ext f (j + 1) r
def handRows (ext : Bool) (f : Nat → Nat → K) : Nat → List (List K) → Bool
 | _, [] => true
 | k, q :: r => handRow ext (f k) 0 q && handRows ext f (k + 1) r

theorem handRow_of {ext : Bool} {f : Nat → K} : ∀ {l : List K} {j0 : Nat}, handRow ext f j0 l = true → ∀ {j : Nat} {q : K}, l[j]? = some q → (f (j0 + j)).hand ext q = true
 | [], _, _, j, q, h => by simp at h
 | p :: r, j0, h, 0, q, h2 => by
  simp only [handRow, Bool.and_eq_true] at h
  simp only [List.getElem?_cons_zero, Option.some.injEq] at h2
  subst h2; exact h.1
 | p :: r, j0, h, j + 1, q, h2 => by
  simp only [handRow, Bool.and_eq_true] at h
  simp only [List.getElem?_cons_succ] at h2
  have := handRow_of h.2 h2
  rwa [show j0 + 1 + j = j0 + (j + 1) by omega] at this
theorem handRows_of {ext : Bool} {f : Nat → Nat → K} : ∀ {l : List (List K)} {k0 : Nat}, handRows ext f k0 l = true → ∀ {k : Nat} {r : List K}, l[k]? = some r → handRow ext (f (k0 + k)) 0 r = true
 | [], _, _, k, q, h => by simp at h
 | p :: r, k0, h, 0, q, h2 => by
  simp only [handRows, Bool.and_eq_true] at h
  simp only [List.getElem?_cons_zero, Option.some.injEq] at h2
  subst h2; exact h.1
 | p :: r, k0, h, k + 1, q, h2 => by
  simp only [handRows, Bool.and_eq_true] at h
  simp only [List.getElem?_cons_succ] at h2
  have := handRows_of h.2 h2
  rwa [show k0 + 1 + k = k0 + (k + 1) by omega] at this

/-- Kinds handed in to the callee's value i. -/
def handV (sg : Sg) (f : Nat → Nat → K) (i : Nat) : Bool := match look i sg.bi.sl with | some κ => handRows sg.ext f 0 κ | none => true
theorem handV_of {sg : Sg} {f : Nat → Nat → K} {i : Nat} (h : handV sg f i = true) (k j : Nat) : (f k j).hand sg.ext (sg.bi.kd (.s i k j)) = true := by
 unfold handV at h
 simp only [B.kd, B.get]
 cases hl : look i sg.bi.sl with
 | none => rfl
 | some κ =>
  rw [hl] at h
  simp only [kget]
  cases hr : κ[k]? with
  | none => rfl
  | some r =>
   cases hq : r[j]? with
   | none => simp only [hq]; rfl
   | some q =>
    have h1 := handRows_of h hr
    have h2 := handRow_of h1 hq
    simp only [Nat.zero_add] at h2
    simp only [hq]; exact h2

def handO (sg : Sg) (f : Nat → K) (oc : Nat) : Bool := match look oc sg.bi.ob with | some r => handRow sg.ext f 0 r | none => true
theorem handO_of {sg : Sg} {f : Nat → K} {oc : Nat} (h : handO sg f oc = true) (j : Nat) : (f j).hand sg.ext (sg.bi.kd (.oc oc j)) = true := by
 unfold handO at h
 simp only [B.kd, B.get]
 cases hl : look oc sg.bi.ob with
 | none => rfl
 | some r =>
  rw [hl] at h
  cases hq : r[j]? with
  | none => simp only [hq]; rfl
  | some q =>
   have h2 := handRow_of h hq
   simp only [Nat.zero_add] at h2
   simp only [hq]; exact h2

/-- Value i of the callee's holds nothing. -/
def noHold (sg : Sg) (i : Nat) : Bool := match look i sg.bi.sl with | some κ => κ.all (fun r => r.all fun q => !q.hold) | none => true
theorem noHold_of {sg : Sg} {i : Nat} (h : noHold sg i = true) (k j : Nat) : (sg.bi.kd (.s i k j)).hold = false := by
 unfold noHold at h
 simp only [B.kd, B.get]
 cases hl : look i sg.bi.sl with
 | none => rfl
 | some κ =>
  rw [hl] at h
  simp only [kget]
  cases hr : κ[k]? with
  | none => rfl
  | some r =>
   cases hq : r[j]? with
   | none => simp only [hq]; rfl
   | some q =>
    have := List.all_eq_true.1 (List.all_eq_true.1 h r (mem_of_get hr)) q (mem_of_get hq)
    simp only [hq]; simpa using this

def dfv : K → Bool
 | .D => true
 | .F => true
 | .V => true
 | _ => false

def argB (F : FA) (b : B) (sg : Sg) (xs : List Operand) (i : Nat) : Operand → Bool
 | .tmp t => b.has t && (match F.shOf t with
  | .one (.al l _) => (match l with | .none => false | _ => true) && b.hasL l && !(decide (b.kd (.s t 0 0) = .D)) && K.V.hand sg.ext (sg.bi.kd (.s i 0 0))
  | .one (.pp _ _ _ _) => true
  | .one (.cp _) => handV sg (fun k j => b.kd (.s t k j)) i && dfv (sg.bi.kd (.s i 0 0)) && noHold sg i
  | .one _ => handV sg (fun k j => b.kd (.s t k j)) i && (noHold sg i || decide (argOf xs t = some i))
  | .tup _ => false)
 | .const c => handV sg (fun k j => constK (constV c) k j) i
 | _ => true
def argsB (F : FA) (b : B) (sg : Sg) (xs : List Operand) : Nat → List Operand → Bool
 | _, [] => true
 | i, v :: r => argB F b sg xs i v && argsB F b sg xs (i + 1) r

theorem argsB_of {F : FA} {b : B} {sg : Sg} {xs : List Operand} : ∀ {l : List Operand} {i0 : Nat}, argsB F b sg xs i0 l = true → ∀ {i : Nat} {v : Operand}, l[i]? = some v → argB F b sg xs (i0 + i) v = true
 | [], _, _, i, v, h => by simp at h
 | p :: r, i0, h, 0, v, h2 => by
  simp only [argsB, Bool.and_eq_true] at h
  simp only [List.getElem?_cons_zero, Option.some.injEq] at h2
  subst h2; exact h.1
 | p :: r, i0, h, i + 1, v, h2 => by
  simp only [argsB, Bool.and_eq_true] at h
  simp only [List.getElem?_cons_succ] at h2
  have := argsB_of h.2 h2
  rwa [show i0 + 1 + i = i0 + (i + 1) by omega] at this

section
variable {P : Program} {τ : TypeId → Option TI} {F : FA} {o : Oper} {b b' : B} {x x' : D}

theorem argB_ok (hA : Ag F b x) {n : Nat} {sg : Sg} {xs : List Operand} {i : Nat} {v : Operand} (h : argB F b sg xs i v = true) (hj : thereV (ev x.sl v) = true) : ArgOk (b.S n x) sg xs i v := by
 cases v with
 | tmp t =>
  simp only [argB, Bool.and_eq_true] at h
  obtain ⟨h1, h2⟩ := h
  have hsl : (b.S n x).sl t = x.sl t := S_sl h1
  have hf := hA.fits h1 (thereV_of hj)
  simp only [ArgOk]
  rw [hsl]
  have plain : handV sg (fun k j => b.kd (.s t k j)) i = true → (noHold sg i || decide (argOf xs t = some i)) = true → (∀ k zs, (x.sl t).comp k ≠ some (.cp zs)) →
    (∀ k j, ((b.S n x).fl (.s t k j)).hand sg.ext (sg.bi.kd (.s i k j)) = true ∧ ((sg.bi.kd (.s i k j)).hold = true → argOf xs t = some i)) ∧ ∀ k zs, (x.sl t).comp k = some (.cp zs) → sg.bi.kd (.s i k 0) = .D ∨ sg.bi.kd (.s i k 0) = .F ∨ sg.bi.kd (.s i k 0) = .V := fun q1 q2 q3 => by
   refine ⟨fun k j => ⟨handV_of q1 k j, fun hh => ?_⟩, fun k zs hz => absurd hz (q3 k zs)⟩
   simp only [Bool.or_eq_true, decide_eq_true_eq] at q2
   rcases q2 with q2 | q2
   ·rw [noHold_of q2] at hh; cases hh
   ·exact q2
  have hcomp : ∀ w, (∀ ys, w ≠ W.cp ys) → ∀ k zs, (V.one w).comp k ≠ some (.cp zs) := fun w hw k zs => by
   cases k with
   | zero => simp only [V.comp]; intro e; exact hw zs (Option.some.inj e)
   | succ k => simp [V.comp]
  cases hs : F.shOf t with
  | tup ws => rw [hs] at h2; cases h2
  | one y =>
   rw [hs] at h2 hf
   cases hx : x.sl t with
   | tup ws => rw [hx] at hf; simp [Own.fits] at hf
   | one w =>
    rw [hx] at hf plain
    cases w <;> cases y <;> simp only [Own.fits, fitsW, Bool.false_eq_true] at hf <;> simp only at h2 ⊢
    case cp.cp zs ys =>
     simp only [Bool.and_eq_true] at h2
     refine ⟨fun k j => ⟨handV_of h2.1.1 k j, fun hh => by rw [noHold_of h2.2] at hh; cases hh⟩, fun k zs hz => ?_⟩
     cases k with
     | succ k => simp [V.comp] at hz
     | zero =>
      have := h2.1.2
      cases hq : sg.bi.kd (.s i 0 0) <;> rw [hq] at this <;> simp_all [dfv]
    case nilp.cp ys =>
     simp only [Bool.and_eq_true] at h2
     exact plain h2.1.1 (by rw [h2.2]; rfl) (hcomp _ (by simp))
    case al.al l p l' p' =>
     simp only [Bool.and_eq_true, decide_eq_true_eq] at hf h2
     obtain ⟨rfl, _⟩ := hf
     obtain ⟨⟨⟨q1, q2⟩, q3⟩, q4⟩ := h2
     have q3' : ¬ b.kd (.s t 0 0) = .D := by simpa using q3
     exact ⟨fun e => (by subst e; cases q1), q3', q4⟩
    all_goals
     simp only [Bool.and_eq_true] at h2
     exact plain h2.1 h2.2 (hcomp _ (by simp))
 | const c => exact fun k j => handV_of h k j
 | _ => trivial

/-- The objects handed in are there. -/
def obsB (b : B) (sg : Sg) : Nat → List Nat → Bool
 | _, [] => true
 | i, o :: r => b.hasO o && handO sg (fun j => b.kd (.oc o j)) (par + i) && obsB b sg (i + 1) r
theorem obsB_of {sg : Sg} : ∀ {l : List Nat} {i0 : Nat}, obsB b sg i0 l = true → ∀ {i o : Nat}, l[i]? = some o → b.hasO o = true ∧ handO sg (fun j => b.kd (.oc o j)) (par + (i0 + i)) = true
 | [], _, _, i, o, h => by simp at h
 | p :: r, i0, h, 0, o, h2 => by
  simp only [obsB, Bool.and_eq_true] at h
  simp only [List.getElem?_cons_zero, Option.some.injEq] at h2
  subst h2; exact h.1
 | p :: r, i0, h, i + 1, o, h2 => by
  simp only [obsB, Bool.and_eq_true] at h
  simp only [List.getElem?_cons_succ] at h2
  have := obsB_of h.2 h2
  rwa [show i0 + 1 + i = i0 + (i + 1) by omega] at this

def nodupB : List Nat → Bool
 | [] => true
 | i :: r => !(mem i r) && nodupB r
theorem mem_of {i : Nat} : ∀ {l : List Nat}, i ∈ l → mem i l = true
 | [], h => by simp at h
 | j :: r, h => by
  simp only [mem, Bool.or_eq_true]
  rcases List.mem_cons.1 h with h | h
  ·left; rw [h]; exact Nat.beq_refl _
  ·exact .inr (mem_of h)
theorem nodupB_of : ∀ {l : List Nat}, nodupB l = true → l.Nodup
 | [], _ => List.nodup_nil
 | i :: r, h => by
  simp only [nodupB, Bool.and_eq_true] at h
  rw [List.nodup_cons]
  exact ⟨fun hm => by rw [mem_of hm] at h; simp at h, nodupB_of h.2⟩

def cCall (F : FA) (b : B) (sg : Sg) (c : Call) (v : Operand) (d nd : Option Nat) (os : List Nat) : Option B :=
 bif knows b v && c.args.toList.all (kn b F) && argsB F b sg c.args.toList 0 c.args.toList && obsB b sg 0 os && nodupB os && (match d with | some d => Nat.blt d F.n | none => true) &&
   (match nd with | some z => Nat.blt z par && !(mem z os) | none => true) && sg.bo.has 0 && (match sg.io with | none => true | _ => false) && (sg.ext || pureS sg) && Nat.ble sg.np par then
  some (((b.pre F sg c.args.toList os).call F d nd os sg).nrm F) else none

/-- What goes into a call. -/
def inV (x : D) (c : Call) (caps : List (Nat × Nat)) (os : List Nat) : List V := c.args.toList.map (fun v => (evD x v).to (innO os)) ++ caps.map (fun c => (V.one (.ptr c.1 c.2)).to (innO os))

theorem call_S (hA : Ag F b x) {c : Call} {v : Operand} {f : FuncId} {caps : List (Nat × Nat)} {sg : Sg} {vs : List V} {ob ob' : List (List T)} {r : V} {nw : Option (List T)} {os : List Nat} {nd : Option Nat} (ho : o.op = .call c) (hcal : c.callee = .value v) (hx : ev x.sl v = .one (.fn f caps))
  (hC : TC P f sg vs ob r none ob' nw) (hvs : vs = inV x c caps os) (hob : ob.map some = os.map x.ob) (hnp : sg.np = vs.length) (hth : c.args.toList.all (fun v => thereV (ev x.sl v)) = true)
  (h1 : callShapes F (x.call o.dst nd os (DR r none ob' nw)) o.dst nd os = true) (h2 : cCall F b sg c v o.dst nd os = some b') :
  Ag F b' (x.call o.dst nd os (DR r none ob' nw)) ∧ ∀ g0 w0, OpW P g0 w0 o (b.S F.n x) (b'.S F.n (x.call o.dst nd os (DR r none ob' nw))) := by
 unfold cCall at h2
 obtain ⟨hc, h2⟩ := cond_some h2
 simp only [Bool.and_eq_true] at hc
 obtain ⟨⟨⟨⟨⟨⟨⟨⟨⟨⟨c1, c2⟩, c3⟩, c4⟩, c5⟩, c6⟩, c7⟩, c8⟩, c9⟩, c10⟩, c11⟩ := hc
 cases h2
 have hAp := hA.pre sg c.args.toList os
 have hAc := hAp.call (d := o.dst) (nd := nd) (os := os) (sg := sg) (y := DR r none ob' nw) h1
 have hfit : ∀ i, o.dst = some i → Own.fits (((DR r none ob' nw).sl 0).to (outN os nd)) (F.shOf i) = true := fun i e => by
  simp only [callShapes, Bool.and_eq_true] at h1
  have h := h1.1
  rw [e] at h
  simp only [D.call, if_true] at h
  exact h
 refine ⟨hAc.nrm, fun g0 w0 => ?_⟩
 have hmap : c.args.toList.map (fun v => (evR (b.S F.n x) v).to (innO os)) = c.args.toList.map (fun v => (evD x v).to (innO os)) := List.map_congr_left fun v hv => by rw [S_evR hA (List.all_eq_true.1 c2 v hv)]
 have hob2 : os.map (b.S F.n x).ob = os.map x.ob := List.map_congr_left fun o ho => by
  obtain ⟨i, hi⟩ := List.getElem?_of_mem ho
  exact S_ob (obsB_of c4 hi).1
 have h3 := call_ok (g0 := g0) (w0 := w0) (st := b.S F.n x) (nd := nd) ho hcal (by rw [S_ev c1]; exact hx) hC (by
   revert c9; cases sg.io <;> simp) (fun i e => by rw [e] at c6; exact blt_of c6) (fun z e => by
   rw [e] at c7
   simp only [Bool.and_eq_true] at c7
   exact ⟨blt_of c7.1, fun hm => by rw [mem_of hm] at c7; simp at c7⟩) (nodupB_of c5) hnp (Nat.le_of_ble_eq_true c11) c8 (fun e => by rw [e] at c10; simpa using c10) (by rw [hmap]; exact hvs) (by rw [hob2]; exact hob)
   (fun i v hv => by
    have := argsB_of c3 hv
    rw [Nat.zero_add] at this
    exact argB_ok hA this (List.all_eq_true.1 hth v (mem_of_get hv))) (fun o oc j hio => by
    have hout := innO_out hio
    obtain ⟨_, hp, hoi⟩ := outO_inn (nodupB_of c5) hout
    have := (obsB_of c4 hoi).2
    rw [Nat.zero_add, Nat.add_sub_of_le hp] at this
    exact handO_of this j)
 refine h3.relax (fun a w hs => hs.relax ?_)
 exact (call_low hAp (pre_low (n := F.n) hA sg c.args.toList os) hfit).le hAc
end
end Go.Own

/- A call that turns a slice in place: told of states. -/
namespace Go.Own
open Go.RowKit
set_option linter.unusedVariables false

def isL (l m : Loc) : Bool := decide (m = l)
def St.raise (st : St) (l : Loc) (κ : K) : St := st.setf (isL l) (fun m => if m = l then κ else st.fl m)
def St.callIo (st : St) (sg : Sg) (xs : List Operand) (d : Option Nat) (l : Loc) (κ : K) (y : D) (z : T) : St :=
 ((((st.pre sg xs []).drop (isL l)).call d none [] sg.ext sg.bo y).upd l z).raise l κ

theorem call_pp {st : St} {l : Loc} {d : Option Nat} {y : D} {ext : Bool} {bo : B} {i n j : Nat} (h : ((st.drop (isL l)).call d none [] ext bo y).sl i = .one (.pp l [] n j)) : ((st.drop (isL l)).call d none [] ext bo y).fl (.s i 0 0) = .D := by
 simp only [St.call] at h ⊢
 by_cases e : d = some i
 ·rw [if_pos e] at h
  cases hy : y.sl 0 with
  | tup ws => rw [hy] at h; cases h
  | one w =>
   rw [hy] at h
   simp only [V.to, V.one.injEq] at h
   cases w <;> simp [W.to] at h
   ·rename_i o off
    cases hq : outN [] none o <;> rw [hq] at h <;> cases h
   ·rename_i f caps
    cases hq : capsTo (outN [] none) caps <;> rw [hq] at h <;> cases h
 ·rw [if_neg e] at h ⊢
  split
  ·rfl
  ·have h' : st.sl i = .one (.pp l [] n j) := by
    have : killN none ((st.drop (isL l)).sl i) = (st.drop (isL l)).sl i := by
     first | rfl | (unfold killN; rfl) | simp [killN]
    rw [this] at h; exact h
   simp only [St.drop, St.setf, h']
   exact if_pos ⟨trivial, trivial, by simp [rootOf, isL]⟩
theorem call_io_ok {P : Program} {g0 : G} {w0 : World} {st : St} {o : Oper} {c : Call} {x : Operand} {f : FuncId} {sg : Sg} {vs : List V} {r : V} {y0 y' x0 : T} {t n n1 : Nat} {xs' : List Operand} {l : Loc} {p : List (Nat × Nat)} {κ : K}
  (ho : o.op = .call c) (hcal : c.callee = .value x) (hx : ev st.sl x = .one (.fn f [])) (hC : TC P f sg vs [] r (some y') [] none) (hsg : sg.io = some 0) (hext : sg.ext = true) (hd : ∀ i, o.dst = some i → i < st.n)
  (hnp : sg.np = vs.length) (hle : sg.np ≤ par) (hb0 : sg.bo.has 0 = true) (hvs : vs = c.args.toList.map (fun v => (evR st v).to (innO []))) (hargs : c.args.toList = .tmp t :: xs')
  (hsl : st.sl t = .one (.al l p)) (hln : l ≠ .none) (hft : st.fl (.s t 0 0) ≠ .D) (hfl : st.fl l = .U n) (hat : st.at l = some x0) (hnav : nav x0 p = some y0)
  (hbi : sg.bi.kd (.s 0 0 0) = .U 0) (hb1 : sg.bo.has 1 = true) (hbo : sg.bo.kd (.s 1 0 0) = .U n1) (hκ : κ = if p = [] then .U n1 else .U n) (hnd : ∀ i k j, l = .s i k j → o.dst ≠ some i)
  (harg : ∀ (i : Nat) v, xs'[i]? = some v → ArgOk st sg c.args.toList (i + 1) v) (hnh : ∀ i k j, i ≠ 0 → (sg.bi.kd (.s i k j)).hold = false) (hnl : p ≠ [] → n1 = 0) :
  OpW P g0 w0 o st (st.callIo sg c.args.toList o.dst l κ (DR r (some y') [] none) (setAt x0 p y')) := by
 intro Q K a w ⟨g, hs⟩ hK
 have hlp := at_isPlace hat
 -- the part
 obtain ⟨hh, v0, x0', y0', hv0, hx0', hpl⟩ : (st.fl l).hold = true ∧ ∃ v0 x0' y0', vAt a.tmps g.β w l = some v0 ∧ st.at l = some x0' ∧ Pl w v0 x0' p (a.tmps.getD t undef) y0' := by
  have hp := hs.pls t (by rw [hsl]; exact hln) hft
  rw [hsl] at hp
  exact hp
 rw [hat] at hx0'; cases hx0'
 have e0 := hpl.nav
 rw [hnav] at e0; cases e0
 obtain ⟨v0', hv0', hna0, hlf0⟩ := hs.get hat
 rw [hv0] at hv0'; cases hv0'
 rw [hfl] at hlf0
 have hlf0 : Ow (frz g w) true w (stride n) (fun b => g.own b = l) v0 x0 := hlf0
 obtain ⟨Fp, q1, q2, q3⟩ := hlf0.part hpl
 have q2 : Ow (frz g w) true w none Fp (a.tmps.getD t undef) y0 := by
  by_cases e : p = []
  ·rw [if_pos e] at q2; exact q2.any
  ·rw [if_neg e] at q2; exact q2
 have hFpl : ∀ b, Fp b → (g.own b).place = true := fun b hb => by rw [q1 b hb]; exact hlp
 -- the alias's slot is no place
 have hlt : ∀ k j, l ≠ .s t k j := fun k j e => by
  rw [e, St.at_s, hsl] at hat
  cases k <;> simp [V.leaf, W.leaf] at hat
 have harg0 : ∀ (t' i k j : Nat), argOf c.args.toList t' = some i → (sg.bi.kd (.s i k j)).hold = true → i = 0 ∧ t' = t := fun t' i k j h1 h2 => by
  have hi : i = 0 := Decidable.byContradiction fun e => by rw [hnh i k j e] at h2; cases h2
  subst hi
  refine ⟨rfl, ?_⟩
  unfold argOf at h1
  rw [hargs] at h1
  split at h1
  ·simp only [Option.some.injEq, List.findIdx_cons] at h1
   cases hh : isTmp t' (.tmp t) with
   | true => simp only [isTmp] at hh; exact (by simpa using hh : t = t').symm
   | false => rw [hh] at h1; simp at h1
  ·cases h1
 have hinto : ∀ m : Loc, m ≠ .none → (∀ k j, m ≠ .s t k j) → (∀ o, m ≠ .obj o) → intoL sg c.args.toList [] m = .ext := fun m h1 h2 h3 => by
  have hr : restL sg.ext = .ext := by rw [hext]; rfl
  cases m with
  | none => exact absurd rfl h1
  | ext => exact hr
  | obj o => exact absurd rfl (h3 o)
  | s t' k j =>
   simp only [intoL]
   split
   ·rename_i i hi
    split
    ·rename_i hk
     exact absurd (by rw [(harg0 t' i k j hi hk).2]) (h2 k j)
    ·exact hr
   ·exact hr
  | oc o j => simp only [intoL, innO]; simp [hr]
 have hintol : intoL sg c.args.toList [] l = .ext := hinto l hln hlt (Loc.place_ne hlp).2.2
 have hrv0 : RV (g.into sg c.args.toList [] Fp) w (fun k j => sg.bi.kd (.s 0 k j)) (fun k j => .s 0 k j) (a.eval (.tmp t)) ((evR st (.tmp t)).to (innO [])) := by
  have e : evR st (.tmp t) = .one (.c y0) := by
   show resV st.sl st.ob (st.sl t) = _
   rw [hsl]
   have hat' : atL st.sl st.ob l = some x0 := hat
   simp [resV, hat', hnav]
  rw [e]
  show nagg _ ∧ LF _ w (sg.bi.kd (.s 0 0 0)) (.s 0 0 0) (a.tmps.getD t undef) y0
  have hrd := hs.pl_rd hh hv0 hat hpl
  refine ⟨hrd.not_agg, ?_⟩
  rw [hbi]
  show Ow _ true w none _ _ _
  exact q2.mono id (fun e => by cases e) (fun b hb => ⟨by simp only [G.into]; rw [if_pos hb, hsg]; rfl, rfl⟩)
 have he := hs.enter (sg := sg) (xs := c.args.toList) (caps := []) (os := []) (Fp := Fp) List.nodup_nil hnp hle hFpl (fun e => by rw [hext] at e; cases e) (fun t' i k j h1 h2 b hb hf => by
  obtain ⟨rfl, rfl⟩ := harg0 t' i k j h1 h2
  rw [q1 b hf] at hb
  exact hlt k j hb) (fun o oc j h _ _ _ => by simp [innO] at h) (vs := vs) (ob := []) (by rw [hvs]; simp) rfl (fun i v hv hio => by
  cases i with
  | zero => exact absurd hsg hio
  | succ i => rw [hargs] at hv; exact harg i v (by simpa using hv)) (fun o oc j h => by simp [innO] at h) (fun i v hv hio => by
  rw [hsg] at hio; cases hio
  rw [hargs] at hv
  simp only [List.getElem?_cons_zero, Option.some.injEq] at hv
  subst hv
  exact hrv0)
 have hC := hC _ _ _ he
 have hfv : a.eval x = .func (.func f) #[] (([] : List (Nat × Nat)).map fun c => Value.pointer (some ⟨g.β c.1, c.2, none⟩)).toArray := by
  have := hs.ev_rv x (fun _ _ => .none)
  rw [hx] at this
  exact this
 have hrun : (execOp a.eval o).run P w = (callFunc f (c.args.toList.map a.eval ++ ([] : List (Nat × Nat)).map fun c => Value.pointer (some ⟨g.β c.1, c.2, none⟩)).toArray).run P w := by
  obtain ⟨dst, op, ty, pos, after, guard⟩ := o
  simp only at ho
  subst ho
  simp only [execOp, resolve, hcal, hfv, Deferred.ofValue, Sem.run_bind, Sem.run_pure, Result.andThen_ok, invoke]
  congr 2
  apply Array.ext'
  simp
 have hq0 : (fun m => !(isFor (intoL sg c.args.toList [] m)) && !(isFor m)) Loc.none = false := by simp [isFor]
 have hpure : ¬ pureS sg = true := fun h => by
  have := pureS_of h (.s 0 0 0)
  rw [hbi] at this; cases this
 have hs1 : SimG g0 w0 (st.pre sg c.args.toList []) a g w := by
  unfold St.pre
  rw [if_neg hpure]; exact hs.killV.drop _ hq0
 have hl0 : isL l .none = false := by simp only [isL]; exact decide_eq_false (Ne.symm hln)
 have hs2 : SimG g0 w0 ((st.pre sg c.args.toList []).drop (isL l)) a g w := hs1.drop _ hl0
 have hat1 : (st.pre sg c.args.toList []).at l = some x0 := by unfold St.pre; rw [if_neg hpure]; exact hat
 have key : ∀ v w', (∃ g', SimG (g.into sg c.args.toList [] Fp) w (sg.bo.S 2 (DR r (some y') [] none)) ⟨#[v, (c.args.toList.map a.eval ++ ([] : List (Nat × Nat)).map fun c => Value.pointer (some ⟨g.β c.1, c.2, none⟩)).toArray.getD (sg.io.getD 0) undef], []⟩ g' w') →
   Sim g0 w0 (st.callIo sg c.args.toList o.dst l κ (DR r (some y') [] none) (setAt x0 p y')) (a.put o.dst v) w' := by
  rintro v w' ⟨g', h1⟩
  have h3 := hs2.leave (v := v) (d := o.dst) (nd := none) (iol := l) List.nodup_nil (by unfold St.pre; rw [if_neg hpure]; exact hd) (fun _ e => by cases e) hFpl ⟨hln, (Loc.place_ne hlp).2.2⟩ h1 rfl hb0 (fun m z hm1 hm2 => by
   have hmp := at_isPlace hm2
   have hm2' : (st.pre sg c.args.toList []).at m = some z := hm2
   rw [drop_fl hl0 hm2'] at hm1
   by_cases e : isL l m = true
   ·rw [if_pos e] at hm1; cases hm1
   ·rw [if_neg e] at hm1
    have hml : m ≠ l := by simpa [isL] using e
    refine ⟨?_, fun b hb hf => hml (by rw [← hb]; exact q1 b hf)⟩
    cases hq : isFor (intoL sg c.args.toList [] m) with
    | true => rfl
    | false =>
     exfalso
     have hmp2 : isFor m = false := by cases m <;> first | rfl | cases hmp
     have hm3 : st.killV.at m = some z := by unfold St.pre at hm2'; rw [if_neg hpure] at hm2'; exact hm2'
     unfold St.pre at hm1
     rw [if_neg hpure, drop_fl hq0 hm3, hq, hmp2] at hm1
     simp [Own.K.hold] at hm1) (.inl fun m => by
   have h0 : ∀ m, (st.pre sg c.args.toList []).fl m ≠ .V := by
    unfold St.pre
    rw [if_neg hpure]
    refine setf_noV (fun m => ?_)
    split
    ·simp
    ·exact killV_noV st m
   refine setf_noV (fun m => ?_) m
   split
   ·simp
   ·exact h0 m)
  generalize hgb : g.back (g.into sg c.args.toList [] Fp) g' w o.dst none [] l = gb at h3
  generalize hst3 : ((st.pre sg c.args.toList []).drop (isL l)).call o.dst none [] sg.ext sg.bo (DR r (some y') [] none) = st3 at h3
  have hat3 : st3.at l = some x0 := by
   rw [← hst3]
   cases l with
   | s i k j =>
    have := hnd i k j rfl
    rw [St.at_s]
    simp only [St.call, if_neg this, killN]
    have h9 : ((st.pre sg c.args.toList []).drop (isL (.s i k j))).at (.s i k j) = some x0 := hat1
    rw [St.at_s] at h9
    exact h9
   | oc o j =>
    rw [St.at_oc]
    simp only [St.call, innN, List.not_mem_nil, if_false]
    have h9 : ((st.pre sg c.args.toList []).drop (isL (.oc o j))).at (.oc o j) = some x0 := hat1
    rw [St.at_oc] at h9
    simpa using h9
   | _ => cases hlp
  -- blocks that the callee had no part in
  have hkeep : ∀ b, b < w.heap.size → isFor ((g.into sg c.args.toList [] Fp).own b) = true → g'.own b = (g.into sg c.args.toList [] Fp).own b ∧ w'.heap[b]? = w.heap[b]? ∧ gb.own b = g.own b := fun b hb hf => by
   obtain ⟨k1, k2⟩ := h1.framed.evo.keep b hb (fun h => h (isFor_iff.1 hf))
   refine ⟨k1, k2, ?_⟩
   rw [← hgb]
   simp only [G.back]
   rw [if_pos (by rw [k1]; exact hf), if_pos ⟨hb, hf⟩]
  have hrest : ∀ b, g.own b = l → ¬ Fp b → gb.own b = l ∧ w'.heap[b]? = w.heap[b]? ∧ isFor (g'.own b) = true := fun b hb hf => by
   have hlt : b < w.heap.size := hs.ok.own b (by rw [hb]; exact hln)
   have hfo : isFor ((g.into sg c.args.toList [] Fp).own b) = true := by rw [into_own hf, hb, hintol]; rfl
   obtain ⟨k1, k2, k3⟩ := hkeep b hlt hfo
   exact ⟨k3.trans hb, k2, by rw [k1]; exact hfo⟩
  have hN : ∀ b, g'.own b = .s 1 0 0 → gb.own b = l := fun b hb => by
   rw [← hgb]
   simp only [G.back]
   rw [if_neg (by rw [hb]; simp [isFor]), hb]
   rfl
  -- the value that was turned
  have hu1 : (c.args.toList.map a.eval ++ ([] : List (Nat × Nat)).map fun c => Value.pointer (some ⟨g.β c.1, c.2, none⟩)).toArray.getD (sg.io.getD 0) undef = a.tmps.getD t undef := by
   rw [hsg, hargs]; simp only [Option.getD_some, List.map_cons]; rfl
  have hy : Ow (frz g' w') true w' (stride n1) (fun b => g'.own b = .s 1 0 0) (a.tmps.getD t undef) y' := by
   have h5 := h1.slots 1
   rw [show (sg.bo.S 2 (DR r (some y') [] none)).sl 1 = .one (.c y') from S_sl hb1] at h5
   have h6 := h5.2
   have h7 : LF g' w' (sg.bo.kd (.s 1 0 0)) (.s 1 0 0) _ y' := h6
   rw [hbo] at h7
   have e1 : (#[v, (c.args.toList.map a.eval ++ ([] : List (Nat × Nat)).map fun c => Value.pointer (some ⟨g.β c.1, c.2, none⟩)).toArray.getD (sg.io.getD 0) undef] : Array Value).getD 1 undef = a.tmps.getD t undef := by rw [hu1]; rfl
   have h7 : Ow (frz g' w') true w' (stride n1) (fun b => g'.own b = .s 1 0 0) _ y' := h7
   rw [e1] at h7
   exact h7
  have hnew : LF gb w' κ l v0 (setAt x0 p y') := by
   have hκU : ∃ m, κ = .U m ∧ stride m = (if p = [] then stride n1 else stride n) := by
    by_cases e : p = []
    ·rw [if_pos e] at hκ; exact ⟨n1, hκ, by rw [if_pos e]⟩
    ·rw [if_neg e] at hκ; exact ⟨n, hκ, by rw [if_neg e]⟩
   obtain ⟨m, rfl, hm⟩ := hκU
   show Ow (frz gb w') true w' (stride m) (fun b => gb.own b = l) v0 (setAt x0 p y')
   by_cases e : p = []
   ·have hse : ∀ z : T, setAt z [] y' = y' := fun z => by cases z <;> rfl
    subst e
    rw [hse, hm, if_pos rfl]
    cases hpl
    exact hy.mono id (fun e => by cases e) (fun b hb => ⟨hN b hb, rfl⟩)
   ·rw [hm, if_neg e]
    refine q3 (frz gb w') w' (fun b => g'.own b = .s 1 0 0) (fun b => gb.own b = l) y' (fun b hb hf => ⟨(hrest b hb hf).1, (hrest b hb hf).2.1⟩) hN (fun b hb1 hb2 => Classical.byContradiction fun hf => by
     have := (hrest b hb2 hf).2.2
     rw [hb1] at this; cases this) ?_
    rw [if_neg e]
    have := hnl e
    subst this
    exact hy.mono id (fun e => by cases e) (fun b hb => ⟨hb, rfl⟩)
  have hv3 : vAt (a.put o.dst v).tmps gb.β w' l = some v0 := by
   cases l with
   | s i k j =>
    simp only [vAt] at hv0 ⊢
    rw [put_getD_opt a o.dst v i (hnd i k j rfl)]; exact hv0
   | oc o' j =>
    simp only [vAt] at hv0 ⊢
    have hb : gb.β o' = g.β o' := by rw [← hgb]; simp [G.back]
    rw [hb]
    obtain ⟨cells, hcl, _⟩ : ∃ cells, st.ob o' = some cells ∧ True := by
     rw [St.at_oc, Option.bind_eq_some_iff] at hat
     obtain ⟨cells, hcl, _⟩ := hat
     exact ⟨cells, hcl, trivial⟩
    obtain ⟨arr, ty, _, _, k3, _⟩ := hs.obs o' cells hcl
    have hlt : g.β o' < w.heap.size := hs.ok.own _ (by rw [k3]; simp)
    have hfo : isFor ((g.into sg c.args.toList [] Fp).own (g.β o')) = true := by
     rw [into_own (fun hf => by have := hFpl _ hf; rw [k3] at this; cases this), k3]
     simp [intoL, innO, isFor]
    rw [cell_of_heap (hkeep _ hlt hfo).2.1]; exact hv0
   | _ => cases hlp
  have hfl3 : st3.fl l = .D := by
   rw [← hst3]
   have e1 : ((st.pre sg c.args.toList []).drop (isL l)).fl l = .D := by
    rw [drop_fl hl0 hat1, if_pos (by simp [isL])]
   cases l with
   | s i k j =>
    have := hnd i k j rfl
    simp only [St.call, if_neg this]
    split
    ·rfl
    ·exact e1
   | oc o' j =>
    simp only [St.call, innN, List.not_mem_nil, if_false]
    simpa using e1
   | _ => cases hlp
  have h4 := h3.upd (g' := gb) (w' := w') (X := fun _ => False) (Calm.refl h3.ok st3) (fun _ => rfl) (z := setAt x0 p y') hat3 hv3 (fun _ _ _ _ _ h => h) (.inl (fun i n j hsl => by
   rw [← hst3] at hsl ⊢
   exact call_pp hsl)) (by
   rw [hfl3]
   intro hsc
   exact (LF.scal (g' := gb) (w' := w') (κ' := .D) (l' := l) hnew hsc) hsc)
  refine ⟨gb, ?_⟩
  unfold St.callIo St.raise
  rw [hst3]
  refine h4.setf (g' := gb) hl0 (fun _ => rfl) h4.ok (fun _ _ => rfl) (fun _ _ h => h) (fun _ h => h) (fun m z u hz hu hf => ?_) (fun i k zs b off hcx hc => ?_) (fun i hi hR hf => ?_)
  ·by_cases e : m = l
   ·rw [if_pos e]
    subst e
    rw [upd_at hat3, if_pos rfl] at hz
    cases hz
    rw [hv3] at hu; cases hu
    exact hnew
   ·rw [if_neg e]; exact hf
  ·by_cases e : Loc.s i k 0 = l
   ·exfalso
    have h9 : ((st3.upd l (setAt x0 p y')).sl i).leaf k 0 = some (setAt x0 p y') := by
     have := upd_at (z := setAt x0 p y') (m := l) hat3
     rw [if_pos rfl, ← e, St.at_s] at this
     rw [← e]; exact this
    cases hsi : (st3.upd l (setAt x0 p y')).sl i with
    | one u =>
     rw [hsi] at hcx h9
     cases k with
     | zero => simp only [V.comp, Option.some.injEq] at hcx; subst hcx; simp [V.leaf, W.leaf] at h9
     | succ k => simp [V.comp] at hcx
    | tup ws =>
     rw [hsi] at hcx h9
     simp only [V.comp] at hcx
     simp [V.leaf, hcx, W.leaf] at h9
   ·rw [if_neg e]; exact hc
  ·by_cases e : Loc.s i 0 0 = l
   ·exfalso
    have h9 := upd_at (z := setAt x0 p y') (m := l) hat3
    rw [if_pos rfl, ← e] at h9
    rw [← e] at hi
    exact hi (root_at h9)
   ·rw [if_neg e] at hf
    refine ⟨hf, fun hh => ?_⟩
    split
    ·obtain ⟨m, hm⟩ : ∃ m, κ = .U m := by
      by_cases e : p = []
      ·exact ⟨n1, by rw [hκ, if_pos e]⟩
      ·exact ⟨n, by rw [hκ, if_neg e]⟩
     rw [hm]; rfl
    ·exact hh
 unfold Oper.wp
 rw [hrun]
 revert hC
 generalize (callFunc f _).run P w = r
 intro hC
 unfold NextOk at hC
 split at hC
 ·exact hK _ _ (key _ _ hC)
 ·rw [Oper.upon_enter]
  refine Calls.mono hC ?_
  rintro e w' ⟨v, rfl, h⟩
  exact hK _ _ (key _ _ h)
 ·exact hC.elim
end Go.Own

/- A call that turns a slice in place: told without the data. -/
namespace Go.Own
open Go.RowKit
set_option linter.unusedVariables false

def ioB (F : FA) (b : B) (d : Option Nat) (sg : Sg) (xs : List Operand) (l : Loc) : B :=
 (((b.pre F sg xs []).setf F (isL l) (fun m q => if isL l m = true then .D else q)).call F d none [] sg)
def ioKind (b : B) (sg : Sg) (l : Loc) : Nat → K
 | 0 => sg.bo.kd (.s 1 0 0)
 | _ => b.kd l
def noHold1 (sg : Sg) : Bool := sg.bi.sl.all fun p => Nat.beq p.1 0 || p.2.all (fun r => r.all fun q => !q.hold)
theorem noHold1_of {sg : Sg} (h : noHold1 sg = true) (i k j : Nat) (hi : i ≠ 0) : (sg.bi.kd (.s i k j)).hold = false := by
 simp only [B.kd, B.get]
 cases hl : look i sg.bi.sl with
 | none => rfl
 | some κ =>
  have h1 := List.all_eq_true.1 h _ (look_mem hl)
  simp only [beq_false hi, Bool.false_or] at h1
  simp only [kget]
  cases hr : κ[k]? with
  | none => rfl
  | some r =>
   cases hq : r[j]? with
   | none => simp [hq, K.hold]
   | some q =>
    have := List.all_eq_true.1 (List.all_eq_true.1 h1 r (mem_of_get hr)) q (mem_of_get hq)
    simp only [hq]
    simpa using this
def notSlot (d : Option Nat) (l : Loc) : Bool := match d with | some d => !(inSlot d l) | none => true
def cIo (F : FA) (b : B) (sg : Sg) (c : Call) (v : Operand) (d : Option Nat) : Option B :=
 match c.args.toList with
 | .tmp t :: xs => (match F.shOf t with
  | .one (.al l p) => bif knows b v && c.args.toList.all (kn b F) && aliveA F b F.n (.tmp t) && isU (b.kd l) && argsB F b sg c.args.toList 1 xs && decide (sg.io = some 0) && sg.ext && decide (sg.bi.kd (.s 0 0 0) = .U 0) && sg.bo.has 0 && sg.bo.has 1 && isU (sg.bo.kd (.s 1 0 0)) &&
    (Nat.beq p.length 0 || decide (sg.bo.kd (.s 1 0 0) = .U 0)) && (match d with | some d => Nat.blt d F.n | none => true) && notSlot d l && noHold1 sg && Nat.ble sg.np par && (ioB F b d sg c.args.toList l).hasL l then
    some ((((ioB F b d sg c.args.toList l).filt (notRoot F l)).setf F (isL l) (fun m q => if m = l then ioKind b sg l p.length else q)).nrm F) else none
  | _ => none)
 | _ => none

section
variable {P : Program} {τ : TypeId → Option TI} {F : FA} {o : Oper} {b b' : B} {x x' : D}

theorem callIo_S (hA : Ag F b x) {c : Call} {v : Operand} {f : FuncId} {sg : Sg} {vs : List V} {r : V} {t : Nat} {xs : List Operand} {l : Loc} {p : List (Nat × Nat)} {x0 : T} {es es' : List (List T)} (ho : o.op = .call c) (hcal : c.callee = .value v) (hx : ev x.sl v = .one (.fn f []))
  (hC : TC P f sg vs [] r (some (.sl es')) [] none) (hvs : vs = inV x c [] []) (hnp : sg.np = vs.length) (hth : c.args.toList.all (fun v => thereV (ev x.sl v)) = true) (hargs : c.args.toList = .tmp t :: xs) (hal : x.sl t = .one (.al l p)) (hat : x.at l = some x0) (hnav : nav x0 p = some (.sl es))
  (h1 : callShapes F (x.call o.dst none [] (DR r (some (.sl es')) [] none)) o.dst none [] = true) (h2 : cIo F b sg c v o.dst = some b') :
  Ag F b' ((x.call o.dst none [] (DR r (some (.sl es')) [] none)).upd l (setAt x0 p (.sl es'))) ∧ ∀ g0 w0, OpW P g0 w0 o (b.S F.n x) (b'.S F.n ((x.call o.dst none [] (DR r (some (.sl es')) [] none)).upd l (setAt x0 p (.sl es')))) := by
 unfold cIo at h2
 rw [hargs] at h2
 simp only at h2
 split at h2 <;> try cases h2
 rename_i l' p' hsh
 obtain ⟨hc, h2⟩ := cond_some h2
 rw [← hargs] at hc h2
 simp only [Bool.and_eq_true] at hc
 obtain ⟨⟨⟨⟨⟨⟨⟨⟨⟨⟨⟨⟨⟨⟨⟨⟨c1, c2⟩, c3⟩, c4⟩, c5⟩, c6⟩, c7⟩, c8⟩, c9⟩, c10⟩, c11⟩, c12⟩, c13⟩, c14⟩, c15⟩, c16⟩, c17⟩ := hc
 cases h2
 have hbt : b.has t = true := by
  have := List.all_eq_true.1 c2 (.tmp t) (by rw [hargs]; exact List.mem_cons_self)
  simp only [kn, Bool.and_eq_true] at this
  exact this.1
 obtain ⟨a1, _, a3, a4⟩ := aliveA_al hA hbt c3 (.inl ⟨p, hal⟩)
 have hfit := hA.fits hbt (by rw [hal]; simp)
 rw [hal, hsh] at hfit
 simp only [Own.fits, fitsW, Bool.and_eq_true, decide_eq_true_eq] at hfit
 obtain ⟨hll, hpl⟩ := hfit
 subst hll
 have hpl := Nat.eq_of_beq_eq_true hpl
 obtain ⟨n, hn⟩ : ∃ n, b.kd l = .U n := by
  revert c4
  cases b.kd l <;> simp [isU]
 obtain ⟨n1, hn1⟩ : ∃ n, sg.bo.kd (.s 1 0 0) = .U n := by
  revert c11
  cases sg.bo.kd (.s 1 0 0) <;> simp [isU]
 have hl0 : isL l .none = false := decide_eq_false (Ne.symm a1)
 have hAp := hA.pre sg c.args.toList []
 have hAd : Ag F ((b.pre F sg c.args.toList []).setf F (isL l) (fun m q => if isL l m = true then .D else q)) x := hAp.setf _ _
 have hAc : Ag F (ioB F b o.dst sg c.args.toList l) (x.call o.dst none [] (DR r (some (.sl es')) [] none)) := hAd.call h1
 have hds : ∀ i k j, l = .s i k j → o.dst ≠ some i := fun i k j e h => by
  rw [h, e] at c14
  simp [notSlot, inSlot, Nat.beq_refl] at c14
 have hat2 : (x.call o.dst none [] (DR r (some (.sl es')) [] none)).at l = some x0 := by
  cases l with
  | s i k j =>
   have := hds i k j rfl
   simp only [D.at, atL, D.call, if_neg this] at hat ⊢
   exact hat
  | oc o' j =>
   simp only [D.at, atL, D.call, innN, List.not_mem_nil, if_false] at hat ⊢
   simpa using hat
  | _ => cases a4
 have hAu := (hAc.upd (z := setAt x0 p (.sl es')) c17 hat2 (setAt_conf hnav)).filt (notRoot F l)
 have hAr := hAu.setf (isL l) (fun m q => if m = l then ioKind b sg l p'.length else q)
 refine ⟨hAr.nrm, fun g0 w0 => ?_⟩
 have hfitd : ∀ i, o.dst = some i → Own.fits (((DR r (some (.sl es')) [] none).sl 0).to (outN [] none)) (F.shOf i) = true := fun i e => by
  simp only [callShapes, Bool.and_eq_true] at h1
  have h := h1.1
  rw [e] at h
  simp only [D.call, if_true] at h
  exact h
 have hmap : c.args.toList.map (fun v => (evR (b.S F.n x) v).to (innO [])) = c.args.toList.map (fun v => (evD x v).to (innO [])) := List.map_congr_left fun v hv => by rw [S_evR hA (List.all_eq_true.1 c2 v hv)]
 have hkind : ioKind b sg l p'.length = if p = [] then K.U n1 else K.U n := by
  rw [← hpl]
  cases p with
  | nil => simp [ioKind, hn1]
  | cons a p => simp [ioKind, hn]
 have h3 := call_io_ok (g0 := g0) (w0 := w0) (st := b.S F.n x) (κ := ioKind b sg l p'.length) (l := l) (p := p) (x0 := x0) (y0 := .sl es) (y' := .sl es') (t := t) (n := n) (n1 := n1) (xs' := xs) ho hcal (by rw [S_ev c1]; exact hx) hC (of_decide_eq_true c6) c7
  (fun i e => by rw [e] at c13; exact blt_of c13) hnp (Nat.le_of_ble_eq_true c16) c9 (by rw [hmap, hvs]; simp [inV]) hargs (by rw [S_sl hbt]; exact hal) a1 a3 hn (by rw [at_S a4]; exact hat) hnav (of_decide_eq_true c8) c10 hn1 hkind hds
  (fun i v hv => by
   have := argsB_of c5 hv
   rw [Nat.add_comm] at this
   exact argB_ok hA this (List.all_eq_true.1 hth v (by rw [hargs]; exact List.mem_cons_of_mem _ (mem_of_get hv)))) (noHold1_of c15) (fun e => by
   simp only [Bool.or_eq_true, decide_eq_true_eq] at c12
   rcases c12 with h | h
   ·have := Nat.eq_of_beq_eq_true h
    rw [← hpl] at this
    exact absurd (List.length_eq_zero_iff.1 this) e
   ·rw [hn1] at h; cases h; rfl)
 refine h3.relax (fun a w hs => hs.relax ?_)
 have hlow1 := pre_low (n := F.n) hA sg c.args.toList []
 have hlow2 : Low F.n ((b.pre F sg c.args.toList []).setf F (isL l) (fun m q => if isL l m = true then .D else q)) x (((b.S F.n x).pre sg c.args.toList []).drop (isL l)) :=
  setf_low hAp hlow1 hl0 (fun m _ h => by
   by_cases e : isL l m = true
   ·rw [if_pos e, if_pos e]; exact lo_refl _
   ·rw [if_neg e, if_neg e]; exact h) (fun i _ h hf => by
   by_cases e : isL l (.s i 0 0) = true
   ·rw [if_pos e] at hf; exact absurd rfl hf
   ·rw [if_neg e] at hf ⊢; exact h hf)
 have hlow3 := call_low (nd := none) (os := []) (sg := sg) (y := DR r (some (.sl es')) [] none) hAd hlow2 hfitd
 have hlow4 := upd_low (z := setAt x0 p (.sl es')) hAc hlow3 c17 hat2 a1
 have hlow5 := setf_low (R := isL l) (f := fun m => if m = l then ioKind b sg l p'.length else (((((b.S F.n x).pre sg c.args.toList []).drop (isL l)).call o.dst none [] sg.ext sg.bo (DR r (some (.sl es')) [] none)).upd l (setAt x0 p (.sl es'))).fl m) (f' := fun m q => if m = l then ioKind b sg l p'.length else q) hAu hlow4 hl0 (fun m _ h => by
   by_cases e : m = l
   ·rw [if_pos e, if_pos e]; exact lo_refl _
   ·rw [if_neg e, if_neg e]; exact h) (fun i _ h hf => by
   by_cases e : Loc.s i 0 0 = l
   ·rw [if_pos e] at hf ⊢; exact hf
   ·rw [if_neg e] at hf ⊢; exact h hf)
 exact hlow5.le hAr
end
end Go.Own

/- A callee that turns the slice of a place in place: told of the place alone. -/
namespace Go.Own
open Go.RowKit
set_option linter.unusedVariables false

/-- What was there is there still. -/
structure ExtW (w w1 : World) : Prop where
 size : w.heap.size ≤ w1.heap.size
 keep : ∀ b, b < w.heap.size → w1.heap[b]? = w.heap[b]?
 os : w1.os = w.os
 tape : w1.tape = w.tape
 output : w1.output = w.output
theorem ExtW.refl (w : World) : ExtW w w := ⟨Nat.le_refl _, fun _ _ => rfl, rfl, rfl, rfl⟩
theorem ExtW.trans {w w1 w2 : World} (h : ExtW w w1) (k : ExtW w1 w2) : ExtW w w2 := ⟨Nat.le_trans h.size k.size, fun b hb => (k.keep b (Nat.lt_of_lt_of_le hb h.size)).trans (h.keep b hb), k.os.trans h.os, k.tape.trans h.tape, k.output.trans h.output⟩

/-- The state with the place's datum another, its kind κ; what was read elsewhere is known no more. -/
def St.turn (st : St) (l : Loc) (κ : K) (z : T) : St := ((st.killV.drop (isL l)).upd l z).raise l κ

open Classical in
noncomputable def G.one (g : G) (l : Loc) : G := { β := g.β, own := fun b => if g.own b = l then .s 0 0 0 else if g.own b = .none then .none else .ext }
open Classical in
noncomputable def G.two (g gc : G) (w : World) (l : Loc) : G := { β := g.β, own := fun b => if gc.own b = .s 1 0 0 then l else if b < w.heap.size ∧ g.own b ≠ l then g.own b else if gc.own b = .none then .none else .ext }

theorem io_core {P : Program} {g0 : G} {w0 : World} {st : St} {a : Act} {g : G} {w w1 : World} (hs : SimG g0 w0 st a g w) (hE : ExtW w w1) {f : FuncId} {sg : Sg} {y0 y' : T} {k k' : Int} {l : Loc} {n n1 : Nat} {v0 : Value} (hC : TC P f sg [.one (.c y0), .one (.c (.int .i64 k))] [] (.one (.c (.int .i64 k'))) (some y') [] none)
  (hio : sg.io = some 0) (hnp : sg.np = 2) (hbi : sg.bi = ⟨[(0, [[.U 0]]), (1, [[.S]])], []⟩) (hb0 : sg.bo.has 0 = true) (hb1 : sg.bo.has 1 = true) (hbo : sg.bo.kd (.s 1 0 0) = .U n1) (hln : l.place = true) (hfl : st.fl l = .U n) (hat : st.at l = some y0) (hv : vAt a.tmps g.β w l = some v0) :
  NextOk P ((callFunc f #[v0, .int .i64 k]).run P w1) (fun u w' => u = .int .i64 k' ∧ ∃ gb, SimG g0 w0 (st.turn l (.U n1) y') a gb w' ∧ gb.β = g.β ∧ (∀ o b, g.own b = .obj o → w'.heap[b]? = w.heap[b]?) ∧ (∀ b, b < w1.heap.size → g.own b = .none → b < w'.heap.size ∧ w'.heap[b]? = w1.heap[b]? ∧ gb.own b = .none)) := by
 have hl3 := Loc.place_ne hln
 obtain ⟨v0', hv', hna, hlf⟩ := hs.get hat
 rw [hv] at hv'; cases hv'
 rw [hfl] at hlf
 have hlf : Ow (frz g w) true w (stride n) (fun b => g.own b = l) v0 y0 := hlf
 have hlt : ∀ b, g.own b ≠ .none → b < w.heap.size := hs.ok.own
 have hin : SimG (g.one l) w1 (sg.bi.S sg.np (DA [.one (.c y0), .one (.c (.int .i64 k))] [])) ⟨#[v0, .int .i64 k], []⟩ (g.one l) w1 := by
  refine ⟨Framed.refl _ _, ⟨fun b hb => ?_⟩, ?_, rfl, fun i => ?_, fun o cells hc => ?_, fun i hi _ => ?_, fun _ _ => rfl, ?_⟩
  ·refine Nat.lt_of_lt_of_le (hlt b fun e => hb ?_) hE.size
   simp only [G.one]
   rw [e, if_neg (Ne.symm hl3.1), if_pos rfl]
  ·rw [hnp]; rfl
  ·rw [hbi]
   match i with
   | 0 =>
    show nagg v0 ∧ LF (g.one l) w1 (.U 0) (.s 0 0 0) v0 y0
    refine ⟨hna, ?_⟩
    show Ow _ true w1 none _ v0 y0
    exact hlf.any.mono id (fun e => by cases e) (fun b hb => ⟨by simp only [G.one]; rw [if_pos hb], hE.keep b (hlt b (by rw [hb]; exact hl3.1))⟩)
   | 1 =>
    show nagg (.int .i64 k) ∧ LF (g.one l) w1 .S (.s 1 0 0) (.int .i64 k) (.int .i64 k)
    exact ⟨⟨by simp, by simp⟩, rfl, .int .i64 k⟩
   | i + 2 => trivial
  ·exfalso
   have hc : (if sg.bi.hasO o = true then (DA [.one (.c y0), .one (.c (.int .i64 k))] []).ob o else none) = some cells := hc
   rw [hbi] at hc
   simp [B.hasO, look] at hc
  ·exfalso
   apply hi
   show rootOf (if sg.bi.has i = true then _ else _) = _
   split
   ·match i with
    | 0 => rfl
    | 1 => rfl
    | i + 2 => rfl
   ·rfl
  ·rw [hnp]; show 2 ≤ par; unfold par; omega
 have hC := hC _ _ _ hin
 have key : ∀ u w', (∃ g', SimG (g.one l) w1 (sg.bo.S 2 (DR (.one (.c (.int .i64 k'))) (some y') [] none)) ⟨#[u, (#[v0, .int .i64 k] : Array Value).getD (sg.io.getD 0) undef], []⟩ g' w') →
   u = .int .i64 k' ∧ ∃ gb, SimG g0 w0 (st.turn l (.U n1) y') a gb w' ∧ gb.β = g.β ∧ (∀ o b, g.own b = .obj o → w'.heap[b]? = w.heap[b]?) ∧ (∀ b, b < w1.heap.size → g.own b = .none → b < w'.heap.size ∧ w'.heap[b]? = w1.heap[b]? ∧ gb.own b = .none) := by
  rintro u w' ⟨g', h1⟩
  have hu : u = .int .i64 k' := by
   have h5 := h1.slots 0
   rw [show (sg.bo.S 2 (DR (.one (.c (.int .i64 k'))) (some y') [] none)).sl 0 = .one (.c (.int .i64 k')) from S_sl hb0] at h5
   have := LF.scal (g' := g') (w' := w') (κ' := .F) (l' := .none) h5.2 rfl
   have this : Rd _ _ _ _ := this
   cases this; rfl
  have hy : Ow (frz g' w') true w' (stride n1) (fun b => g'.own b = .s 1 0 0) v0 y' := by
   have h5 := h1.slots 1
   rw [show (sg.bo.S 2 (DR (.one (.c (.int .i64 k'))) (some y') [] none)).sl 1 = .one (.c y') from S_sl hb1] at h5
   have h7 : LF g' w' (sg.bo.kd (.s 1 0 0)) (.s 1 0 0) _ y' := h5.2
   rw [hbo] at h7
   have h7 : Ow (frz g' w') true w' (stride n1) (fun b => g'.own b = .s 1 0 0) _ y' := h7
   have e1 : (#[u, (#[v0, .int .i64 k] : Array Value).getD (sg.io.getD 0) undef] : Array Value).getD 1 undef = v0 := by rw [hio]; rfl
   rw [e1] at h7
   exact h7
  have hfor : ∀ b, b < w.heap.size → g.own b ≠ l → g'.own b = (g.one l).own b ∧ w'.heap[b]? = w.heap[b]? ∧ (g'.own b = .none ∨ g'.own b = .ext) := fun b hb hne => by
   have hf : (g.one l).own b = .none ∨ (g.one l).own b = .ext := by
    simp only [G.one]; rw [if_neg hne]
    split
    ·exact .inl rfl
    ·exact .inr rfl
   obtain ⟨k1, k2⟩ := h1.framed.evo.keep b (Nat.lt_of_lt_of_le hb hE.size) (fun h => h hf)
   exact ⟨k1, k2.trans (hE.keep b hb), by rw [k1]; exact hf⟩
  have hown : ∀ b, b < w.heap.size → g.own b ≠ l → (g.two g' w l).own b = g.own b := fun b hb hne => by
   obtain ⟨_, _, k3⟩ := hfor b hb hne
   simp only [G.two]
   rw [if_neg (fun e => by rcases k3 with k3 | k3 <;> (rw [k3] at e; cases e)), if_pos ⟨hb, hne⟩]
  have hNl : ∀ b, g'.own b = .s 1 0 0 → (g.two g' w l).own b = l := fun b hb => by simp only [G.two]; rw [if_pos hb]
  have hsz : w.heap.size ≤ w'.heap.size := Nat.le_trans hE.size h1.framed.evo.size
  have hok : GOk (g.two g' w l) w' := ⟨fun b hb => by
   by_cases e1 : g'.own b = .s 1 0 0
   ·exact h1.ok.own b (by rw [e1]; simp)
   ·by_cases e2 : b < w.heap.size ∧ g.own b ≠ l
    ·exact Nat.lt_of_lt_of_le e2.1 hsz
    ·refine h1.ok.own b fun e3 => hb ?_
     simp only [G.two]
     rw [if_neg e1, if_neg e2, if_pos e3]⟩
  have hnew : LF (g.two g' w l) w' (.U n1) l v0 y' := by
   show Ow _ true w' (stride n1) _ v0 y'
   exact hy.mono id (fun e => by cases e) (fun b hb => ⟨hNl b hb, rfl⟩)
  have hobj : ∀ o b, g.own b = .obj o → w'.heap[b]? = w.heap[b]? := fun o b hb => (hfor b (hlt b (by rw [hb]; simp)) (by rw [hb]; exact Ne.symm (hl3.2.2 o))).2.1
  have hv3 : vAt a.tmps g.β w' l = some v0 := by
   cases l with
   | s i kk j => exact hv
   | oc o j =>
    simp only [vAt] at hv ⊢
    rw [St.at_oc, Option.bind_eq_some_iff] at hat
    obtain ⟨cells, hcl, _⟩ := hat
    obtain ⟨arr, ty, _, _, k3, _⟩ := hs.obs o cells hcl
    rw [cell_of_heap (hobj o _ k3)]; exact hv
   | _ => cases hln
  have hl0 : isL l .none = false := decide_eq_false (Ne.symm hl3.1)
  have hsk := hs.killV
  have hatk : st.killV.at l = some y0 := hat
  have hsd := hsk.drop (isL l) hl0
  have hatd : (st.killV.drop (isL l)).at l = some y0 := hat
  have hfld : (st.killV.drop (isL l)).fl l = .D := by rw [drop_fl hl0 hatk, if_pos (by simp [isL])]
  have hnoV : ∀ m, (st.killV.drop (isL l)).fl m ≠ .V := fun m => by
   refine setf_noV (fun m => ?_) m
   split
   ·simp
   ·exact killV_noV st m
  have hcalm : Calm g w (g.two g' w l) w' (fun m => m = l) (st.killV.drop (isL l)) := ⟨⟨hsz, fun b hb hne => ⟨hown b hb hne, (hfor b hb hne).2.1⟩⟩, fun m e => by subst e; exact ⟨fun h => by rcases h with h | h; exact hl3.1 h; exact hl3.2.1 h, hl3.2.2⟩, .inr hnoV, h1.framed.os.trans hE.os, h1.framed.tape.trans hE.tape, h1.framed.output.trans hE.output, hok⟩
  have h4 := hsd.upd (g' := g.two g' w l) (w' := w') hcalm (fun _ => rfl) (z := y') hatd hv (fun _ _ _ _ h => h) (.inl (fun i n j hsl => by
   have hsl' : st.sl i = .one (.pp l [] n j) := hsl
   have e : st.killV.sl i = st.sl i := rfl
   simp only [St.drop, St.setf, e, hsl']
   exact if_pos ⟨trivial, trivial, by simp [rootOf, isL]⟩)) (by
   rw [hfld]
   intro hsc
   exact (LF.scal (g' := g.two g' w l) (w' := w') (κ' := .D) (l' := l) hnew hsc) hsc)
  refine ⟨hu, g.two g' w l, ?_, rfl, hobj, fun b hb hn => ?_⟩
  rotate_left
  ·have hbl : g.own b ≠ l := by rw [hn]; exact Ne.symm hl3.1
   have e1 : (g.one l).own b = .none := by simp only [G.one]; rw [if_neg hbl, if_pos hn]
   obtain ⟨k1, k2⟩ := h1.framed.evo.keep b hb (fun h => h (.inl e1))
   refine ⟨Nat.lt_of_lt_of_le hb h1.framed.evo.size, k2, ?_⟩
   simp only [G.two]
   rw [if_neg (by rw [k1, e1]; simp)]
   split
   ·exact hn
   ·rw [if_pos (by rw [k1, e1])]
  unfold St.turn St.raise
  refine h4.setf (g' := g.two g' w l) hl0 (fun _ => rfl) h4.ok (fun _ _ => rfl) (fun _ _ h => h) (fun _ h => h) (fun m z u' hz hu' hf => ?_) (fun i kk zs b off hcx hc => ?_) (fun i hi hR hf => ?_)
  ·by_cases e : m = l
   ·rw [if_pos e]
    subst e
    rw [upd_at hatd, if_pos rfl] at hz
    cases hz
    have hu'' : vAt a.tmps g.β w' m = some u' := hu'
    rw [hv3] at hu''; cases hu''
    exact hnew
   ·rw [if_neg e]; exact hf
  ·by_cases e : Loc.s i kk 0 = l
   ·exfalso
    have h9 := upd_at (z := y') (m := l) hatd
    rw [if_pos rfl, ← e, St.at_s] at h9
    rw [← e] at hcx
    cases hsi : ((st.killV.drop (isL (.s i kk 0))).upd (.s i kk 0) y').sl i with
    | one u =>
     rw [hsi] at hcx h9
     cases kk with
     | zero => simp only [V.comp, Option.some.injEq] at hcx; subst hcx; simp [V.leaf, W.leaf] at h9
     | succ kk => simp [V.comp] at hcx
    | tup ws =>
     rw [hsi] at hcx h9
     simp only [V.comp] at hcx
     simp [V.leaf, hcx, W.leaf] at h9
   ·rw [if_neg e]; exact hc
  ·by_cases e : Loc.s i 0 0 = l
   ·exfalso
    have h9 := upd_at (z := y') (m := l) hatd
    rw [if_pos rfl, ← e] at h9
    rw [← e] at hi
    exact hi (root_at h9)
   ·rw [if_neg e] at hf
    refine ⟨hf, fun hh => ?_⟩
    split
    ·rfl
    ·exact hh
 unfold NextOk at hC ⊢
 split at hC
 ·exact key _ _ hC
 ·refine Calls.mono hC ?_
  rintro e w' ⟨v, rfl, h⟩
  exact ⟨v, rfl, key _ _ h⟩
 ·exact hC.elim
end Go.Own

/- Functions that hand the slices of a struct, one after another, to callees that turn them. -/
namespace Go.Own
open Go.RowKit
set_option linter.unusedVariables false

/-- Calls one after another: each on a cell of cs, with the number that the one ahead gave. Bx: blocks that stay as they are. -/
def seqNext (P : Program) : List (Nat × FuncId) → List Value → Int → World → (Nat → Prop) → (Value → World → Prop) → Prop
 | [], cs, k, w, Bx, Q => ∀ w1, ExtW w w1 → Q (.int .i64 k) w1
 | (off, g) :: L, cs, k, w, Bx, Q => ∀ w1 (Bx1 : Nat → Prop), ExtW w w1 → (∀ b, Bx b → Bx1 b) → (∀ b, Bx1 b → ¬ Bx b → w.heap.size ≤ b) → (∀ b, Bx1 b → b < w1.heap.size) →
   ∃ c, cs[off]? = some c ∧ NextOk P ((callFunc g #[c, .int .i64 k]).run P w1) (fun u w2 => ∃ k', u = .int .i64 k' ∧ (∀ b, Bx1 b → b < w2.heap.size ∧ w2.heap[b]? = w1.heap[b]?) ∧ seqNext P L cs k' w2 Bx1 Q)

theorem NextOk.mono {P : Program} {n : Result Next} {R R' : Value → World → Prop} (h : NextOk P n R) (hR : ∀ u w, R u w → R' u w) : NextOk P n R' := by
 unfold NextOk at h ⊢
 split at h
 ·exact hR _ _ h
 ·exact Calls.mono h fun e w ⟨v, e1, h1⟩ => ⟨v, e1, hR _ _ h1⟩
 ·exact h.elim

theorem seqNext.ext {P : Program} {L : List (Nat × FuncId)} {cs : List Value} {k : Int} {w w1 : World} {Bx : Nat → Prop} {Q : Value → World → Prop} (h : seqNext P L cs k w Bx Q) (hE : ExtW w w1) : seqNext P L cs k w1 Bx Q := by
 cases L with
 | nil => exact fun w2 h2 => h w2 (hE.trans h2)
 | cons x L =>
  obtain ⟨off, g⟩ := x
  exact fun w2 Bx1 h2 h3 h4 h5 => h w2 Bx1 (hE.trans h2) h3 (fun b hb hn => Nat.le_trans hE.size (h4 b hb hn)) h5

theorem seqNext.less {P : Program} : ∀ {L : List (Nat × FuncId)} {cs : List Value} {k : Int} {w : World} {Bx Bx' : Nat → Prop} {Q : Value → World → Prop}, seqNext P L cs k w Bx Q → (∀ b, Bx' b → Bx b) → (∀ b, Bx b → b < w.heap.size) → seqNext P L cs k w Bx' Q
 | [], cs, k, w, Bx, Bx', Q, h, _, _ => h
 | (off, g) :: L, cs, k, w, Bx, Bx', Q, h, hB, hs => fun w1 Bx1 h1 h2 h3 h4 => by
  obtain ⟨c, hc, hn⟩ := h w1 (fun b => Bx1 b ∨ Bx b) h1 (fun b hb => .inr hb) (fun b hb hn => by
   rcases hb with hb | hb
   ·exact h3 b hb (fun h => hn (hB b h))
   ·exact absurd hb hn) (fun b hb => by
   rcases hb with hb | hb
   ·exact h4 b hb
   ·exact Nat.lt_of_lt_of_le (hs b hb) h1.size)
  refine ⟨c, hc, hn.mono fun u w2 ⟨k', e, h5, h6⟩ => ⟨k', e, fun b hb => h5 b (.inl hb), h6.less (fun b hb => .inl hb) fun b hb => (h5 b hb).1⟩⟩

theorem seqNext.app {P : Program} : ∀ {L1 L2 : List (Nat × FuncId)} {cs : List Value} {k : Int} {w : World} {Bx : Nat → Prop} {Q : Value → World → Prop}, seqNext P (L1 ++ L2) cs k w Bx Q → (∀ b, Bx b → b < w.heap.size) →
  seqNext P L1 cs k w Bx (fun u w2 => ∃ k', u = .int .i64 k' ∧ (∀ b, Bx b → b < w2.heap.size ∧ w2.heap[b]? = w.heap[b]?) ∧ seqNext P L2 cs k' w2 Bx Q)
 | [], L2, cs, k, w, Bx, Q, h, hs => fun w1 h1 => ⟨k, rfl, fun b hb => ⟨Nat.lt_of_lt_of_le (hs b hb) h1.size, h1.keep b (hs b hb)⟩, seqNext.ext h h1⟩
 | (off, g) :: L1, L2, cs, k, w, Bx, Q, h, hs => fun w1 Bx1 h1 h2 h3 h4 => by
  obtain ⟨c, hc, hn⟩ := h w1 Bx1 h1 h2 h3 h4
  refine ⟨c, hc, hn.mono fun u w2 ⟨k', e, h5, h6⟩ => ⟨k', e, h5, ?_⟩⟩
  have h7 := seqNext.app h6 (fun b hb => (h5 b hb).1)
  refine seqNext.mapQ h7 fun u w3 ⟨k2, e2, h8, h9⟩ => ⟨k2, e2, fun b hb => ?_, h9.less h2 fun b hb => (h8 b hb).1⟩
  obtain ⟨q1, q2⟩ := h8 b (h2 b hb)
  exact ⟨q1, q2.trans ((h5 b (h2 b hb)).2.trans (h1.keep b (hs b hb)))⟩
where
 seqNext.mapQ {P : Program} : ∀ {L : List (Nat × FuncId)} {cs : List Value} {k : Int} {w : World} {Bx : Nat → Prop} {Q Q' : Value → World → Prop}, seqNext P L cs k w Bx Q → (∀ u w, Q u w → Q' u w) → seqNext P L cs k w Bx Q'
  | [], cs, k, w, Bx, Q, Q', h, hQ => fun w1 h1 => hQ _ _ (h w1 h1)
  | (off, g) :: L, cs, k, w, Bx, Q, Q', h, hQ => fun w1 Bx1 h1 h2 h3 h4 => by
   obtain ⟨c, hc, hn⟩ := h w1 Bx1 h1 h2 h3 h4
   exact ⟨c, hc, hn.mono fun u w2 ⟨k', e, h5, h6⟩ => ⟨k', e, h5, seqNext.mapQ h6 hQ⟩⟩

def shiftL (off : Nat) (L : List (Nat × FuncId)) : List (Nat × FuncId) := L.map fun x => (x.1 + off, x.2)
theorem seqNext.shift {P : Program} {off n : Nat} : ∀ {L : List (Nat × FuncId)} {cs : List Value} {k : Int} {w : World} {Bx : Nat → Prop} {Q : Value → World → Prop}, (∀ x ∈ L, x.1 < n) → seqNext P (shiftL off L) cs k w Bx Q → seqNext P L ((cs.drop off).take n) k w Bx Q
 | [], cs, k, w, Bx, Q, _, h => h
 | (o, g) :: L, cs, k, w, Bx, Q, hL, h => fun w1 Bx1 h1 h2 h3 h4 => by
  obtain ⟨c, hc, hn⟩ := h w1 Bx1 h1 h2 h3 h4
  have ho : o < n := hL (o, g) List.mem_cons_self
  refine ⟨c, ?_, hn.mono fun u w2 ⟨k', e, h5, h6⟩ => ⟨k', e, h5, seqNext.shift (fun x hx => hL x (List.mem_cons_of_mem _ hx)) h6⟩⟩
  rw [List.getElem?_take, if_pos ho, List.getElem?_drop, Nat.add_comm]
  exact hc

/-- A value's cells. -/
def valC (agg : Bool) (v : Value) (cs : List Value) : Prop := if agg = true then v = .agg cs.toArray else cs = [v]
/-- f does to its first argument's slices as L says. -/
def Marks (P : Program) (f : FuncId) (agg : Bool) (n : Nat) (L : List (Nat × FuncId)) : Prop :=
 (∀ x ∈ L, x.1 < n) ∧ ∀ (v : Value) (cs : List Value) (k : Int) (w : World) (Bx : Nat → Prop) (Q : Value → World → Prop), valC agg v cs → cs.length = n → (∀ b, Bx b → b < w.heap.size) → seqNext P L cs k w Bx Q → NextOk P ((callFunc f #[v, .int .i64 k]).run P w) Q
theorem Marks.slice (P : Program) (g : FuncId) : Marks P g false 1 [(0, g)] := ⟨by simp, fun v cs k w Bx Q hv hl hs h => by
 simp only [valC, Bool.false_eq_true, if_false] at hv
 subst hv
 obtain ⟨c, hc, hn⟩ := h w Bx (ExtW.refl w) (fun _ h => h) (fun b h1 h2 => absurd h1 h2) hs
 cases hc
 exact hn.mono fun u w2 ⟨k', e, _, h6⟩ => by subst e; exact h6 w2 (ExtW.refl w2)⟩

/-- A load, off a row of cells. -/
theorem load_raw {P : Program} {τ : TypeId → Option TI} (hT : Tables P τ) {t : TypeId} {i : TI} (hi : τ t = some i) {w : World} {b p : Nat} {arr : Array Value} {ty : TypeId} (hh : w.heap[b]? = some (.cells arr ty (0, 0))) (hle : p + i.size ≤ arr.size) (h1 : i.agg = false → i.size = 1) :
  ∃ u, (loadVar t ⟨b, p, none⟩).run P w = .ok u w ∧ valC i.agg u ((arr.toList.drop p).take i.size) := by
 obtain ⟨info, d, z, q1, q2, q3, q4, q5, q6, q7, q8, q9⟩ := hT.get hi
 have hcell : ∀ j, w.cell? ⟨b, p + j, none⟩ = arr[p + j]? := fun j => by rw [cell_of_row w b _ arr ty _ hh]
 cases hag : i.agg with
 | true =>
  rw [hag] at q9
  have hlen : ((arr.toList.drop p).take i.size).length = i.size := by simp; omega
  have hval : ∀ (j : Nat) v, ((arr.toList.drop p).take i.size)[j]? = some v → w.cell? ((⟨b, p, none⟩ : Addr).add j) = some v := by
   intro j v hv
   rw [List.getElem?_take] at hv
   split at hv
   ·rw [List.getElem?_drop, Array.getElem?_toList] at hv
    rw [addr_add, hcell, hv]
   ·cases hv
  have hrun := run_loadCells_list (P := P) w ⟨b, p, none⟩ _ hval
  rw [hlen] at hrun
  have hisagg : (isAgg t).run P w = .ok true w := by
   simp only [isAgg, Sem.run_bind, run_underlying q2, Result.andThen_ok]
   cases d <;> first | (simp at q9; done) | rfl
  refine ⟨.agg ((arr.toList.drop p).take i.size).toArray, ?_, by simp [valC]⟩
  simp only [loadVar, Sem.run_bind, hisagg, Result.andThen_ok, if_true, sizeOf, typeInfo, run_program, q1, Sem.run_pure, q3, hrun]
 | false =>
  rw [hag] at q9
  have hs := h1 hag
  have hlt : p < arr.size := by omega
  have hc' : w.cell? ⟨b, p, none⟩ = some arr[p] := by
   have := hcell 0
   rw [Nat.add_zero] at this
   rw [this, Array.getElem?_eq_getElem hlt]
  have hisagg : (isAgg t).run P w = .ok false w := by
   simp only [isAgg, Sem.run_bind, run_underlying q2, Result.andThen_ok]
   cases d <;> first | (simp at q9; done) | rfl
  refine ⟨arr[p], ?_, ?_⟩
  ·simp only [loadVar, Sem.run_bind, hisagg, Result.andThen_ok, Bool.false_eq_true, if_false, run_load, hc']
  ·simp only [valC, Bool.false_eq_true, if_false, hs]
   have : arr.toList.drop p = arr[p] :: arr.toList.drop (p + 1) := by
    rw [List.drop_eq_getElem_cons (by simpa using hlt)]; simp
   rw [this]; rfl
end Go.Own

/- What is told of a region that hands a struct to a function that turns its slices. -/
namespace Go.Own
open Go.RowKit
/-- One of the calls: the cell, the callee, what goes in and what comes out. -/
structure MR where
 off : Nat
 g : FuncId
 es : List (List T)
 es' : List (List T)
 k : Int
 k1 : Int
def chainM (p0 : Nat) : List MR → List T → Int → List T → Int → Prop
 | [], cells, k, cells', k' => cells' = cells ∧ k' = k
 | m :: r, cells, k, cells', k' => cells[p0 + m.off]? = some (.sl m.es) ∧ m.k = k ∧ chainM p0 r (cells.set (p0 + m.off) (.sl m.es')) m.k1 cells' k'
def biM : B := ⟨[(0, [[.U 0]]), (1, [[.S]])], []⟩
def awayP (F : FA) (d i : Nat) : Bool := !(Nat.beq i d) && !(inSlot d (rootOf (F.shOf i)))
def B.turn (F : FA) (b : B) (l : Loc) : B := ((((b.killV F).setf F (isL l) (fun m q => if isL l m = true then .D else q)).filt (notRoot F l)).setf F (isL l) (fun m q => if m = l then .U 0 else q))
def B.turnM (F : FA) (o p0 : Nat) : List Nat → B → B
 | [], b => b
 | j :: r, b => B.turnM F o p0 r (b.turn F (.oc o (p0 + j)))
def D.updM (o p0 : Nat) : List MR → D → D
 | [], x => x
 | m :: r, x => D.updM o p0 r (x.upd (.oc o (p0 + m.off)) (.sl m.es'))
def vI (k : Int) : V := .one (.c (.int .i64 k))
/-- Is it the usual signature? -/
def okBi : B → Bool
 | ⟨[(0, [[.U 0]]), (1, [[.S]])], []⟩ => true
 | _ => false
theorem okBi_of {b : B} (h : okBi b = true) : b = biM := by
 unfold okBi at h
 split at h
 ·rfl
 ·cases h
def okSg (sg : Sg) : Bool := decide (sg.io = some 0) && Nat.beq sg.np 2 && Nat.beq sg.no 0 && okBi sg.bi && sg.bo.has 0 && sg.bo.has 1 && decide (sg.bo.kd (.s 1 0 0) = .U 0)
/-- The kinds behind such a region. -/
def B.mkReg (F : FA) (b : B) (o p0 t t' r r0 : Nat) (L : List Nat) : B := ((((b.filt (awayP F t)).filt (awayP F t')).turnM F o p0 L).filt (awayP F r)).put F r0 (fun _ _ => .S)
def mkC (τ : TypeId → Option TI) (Sgs : FuncId → List Sg) (F : FA) (b : B) (L : List (Nat × FuncId)) : List Oper → Option B
 | [⟨some t, .load S (.tmp tp), _, _, _, none⟩, ⟨some t', .move (.tmp tk), _, _, _, none⟩, ⟨some r, .call _, _, _, _, none⟩, ⟨some r0, .assign (.tmp _), _, _, _, none⟩] =>
  (match F.shOf tp with
  | .one (.ptr o p0) => bif b.has tp && b.hasO o && b.has tk && L.all (fun x => isU (b.kd (.oc o (p0 + x.1))) && (Sgs x.2).any okSg) && (Nat.blt t t' && Nat.blt t' r && Nat.blt r F.n && Nat.blt r0 F.n && !(Nat.beq tk t) && !(Nat.beq tp t)) && Own.fits (vI 0) (F.shOf r0) then some ((b.mkReg F o p0 t t' r r0 (L.map (·.1))).nrm F) else none
  | _ => none)
 | _ => none
end Go.Own

/- Into a function's body, and out of it. -/
namespace Go.Own
open Go.RowKit

def G.relab (g : G) (σ : Loc → Loc) (β' : Nat → Nat) : G := { β := β', own := fun b => σ (g.own b) }

structure Relab (σ : Loc → Loc) : Prop where
 none : σ .none = .none
 ext : σ .ext = .ext
 obj : ∀ l, (∀ o, l ≠ .obj o) → ∀ o, σ l ≠ .obj o

theorem LF.relab {g : G} {w : World} {σ : Loc → Loc} {β' : Nat → Nat} (hσ : Relab σ) (hok : GOk g w) {c q : K} {l l' : Loc} {v : Value} {x : T} (hl : l.place = true) (h : LF g w c l v x) (hh : c.hand true q = true) (hm : q.hold = true → σ l = l') : LF (g.relab σ β') w q l' v x :=
 h.hand (ext := true) hok hl hh (fun b hb => by show σ (g.own b) = _; rw [hb]; exact hσ.none) (fun e => by cases e) (fun b hb o => hσ.obj _ hb o) (fun hq b hb => by show σ (g.own b) = l'; rw [hb]; exact hm hq)

theorem CpR.relab {g : G} {w : World} {σ : Loc → Loc} {β' : Nat → Nat} (hσ : Relab σ) {c q : K} {b off : Nat} {xs : List T} (h : CpR g w c b off xs) (hh : c.hand true q = true) (hq : q = .D ∨ q = .F ∨ q = .V) : CpR (g.relab σ β') w q b off xs :=
 h.hand (ext := true) hh (fun b hb => by show σ (g.own b) = _; rw [hb]; exact hσ.none) (fun e => by cases e) (fun b hb o => hσ.obj _ hb o) hq

theorem SimG.relab {g0 : G} {w0 : World} {st : St} {a : Act} {g : G} {w : World} (h : SimG g0 w0 st a g w) {σ : Loc → Loc} (hσ : Relab σ) {β' : Nat → Nat} (a2 : Act) (st2 : St) (hβp : ∀ o, par ≤ o → β' o = g.β o)
  (hsz : a2.tmps.size = st2.n) (hn : st2.n ≤ par) (hd : a2.defers = []) (hroot : ∀ i, rootOf (st2.sl i) = .none) (hsl : ∀ i, RV (g.relab σ β') w (fun k j => st2.fl (.s i k j)) (fun k j => .s i k j) (a2.tmps.getD i undef) (st2.sl i))
  (hob : ∀ o cells, st2.ob o = some cells → ∃ o1, st.ob o1 = some cells ∧ β' o = g.β o1 ∧ σ (.obj o1) = .obj o ∧ ∀ j, (st.fl (.oc o1 j)).hand true (st2.fl (.oc o j)) = true ∧ ((st2.fl (.oc o j)).hold = true → σ (.oc o1 j) = .oc o j)) :
  SimG g0 w0 st2 a2 (g.relab σ β') w := by
 refine ⟨⟨h.framed.os, h.framed.tape, h.framed.output, h.framed.evo.size, fun b hb hX => ?_⟩, ⟨fun b hb => h.ok.own b (fun e => hb ?_)⟩, hsz, hd, hsl, fun o cells hc => ?_, fun i hi => absurd (hroot i) hi, fun o ho => (hβp o ho).trans (h.bp o ho), hn⟩
 ·obtain ⟨e1, e2⟩ := h.framed.evo.keep b hb hX
  have hf : foreign (g0.own b) := Classical.not_not.1 hX
  refine ⟨?_, e2⟩
  show σ (g.own b) = _
  rw [e1]
  rcases hf with e | e
  ·rw [e]; exact hσ.none
  ·rw [e]; exact hσ.ext
 ·show σ (g.own b) = .none
  rw [e]; exact hσ.none
 ·obtain ⟨o1, h1, h2, h3, h4⟩ := hob o cells hc
  obtain ⟨arr, ty, k1, k2, k3, k4⟩ := h.obs o1 cells h1
  have hb : (g.relab σ β').β o = g.β o1 := h2
  rw [hb]
  refine ⟨arr, ty, k1, k2, ?_, fun j x hx => ?_⟩
  ·show σ (g.own (g.β o1)) = .obj o
   rw [k3, h3]
  ·obtain ⟨c, c1, c2, c3⟩ := k4 j x hx
   exact ⟨c, c1, c2, c3.relab hσ h.ok rfl (h4 j).1 (h4 j).2⟩

/-! ### into a body -/
theorem SimG.body {bi : B} {x : D} {np : Nat} {g : G} {w : World} {vs : Array Value} {n : Nat} (h : SimG g w (bi.S np x) ⟨vs, []⟩ g w) (hn : np ≤ n) (hp : n ≤ par) :
  SimG g w (bi.S n x) ⟨vs ++ Array.replicate (n - vs.size) undef, []⟩ g w := by
 have hsz : vs.size = np := h.size
 have hget : ∀ i, (vs ++ Array.replicate (n - vs.size) undef).getD i undef = vs.getD i undef := by
  intro i
  simp only [Array.getD_eq_getD_getElem?, Array.getElem?_append]
  split
  ·rfl
  ·rename_i hi
   rw [Array.getElem?_eq_none (xs := vs) (by omega)]
   simp only [Array.getElem?_replicate]
   split <;> rfl
 have hv : ∀ l, vAt (vs ++ Array.replicate (n - vs.size) undef) g.β w l = vAt vs g.β w l := fun l => by
  cases l with
  | s i k j => simp only [vAt]; rw [hget]
  | _ => rfl
 refine ⟨h.framed, h.ok, ?_, rfl, fun i => ?_, h.obs, fun i hi hf => ?_, h.bp, hp⟩
 ·show (vs ++ Array.replicate (n - vs.size) undef).size = n
  simp; omega
 ·show RV g w _ _ ((vs ++ Array.replicate (n - vs.size) undef).getD i undef) _
  rw [hget]; exact h.slots i
 ·obtain ⟨p1, p2⟩ := h.pls i hi hf
  refine ⟨p1, ?_⟩
  show PlOk _ _ _ _ ((vs ++ Array.replicate (n - vs.size) undef).getD i undef) _
  rw [hget]
  exact p2.congr (hv _) rfl (fun _ _ _ _ _ _ _ h => h)

/-! ### the results -/
/-- A result's datum. -/
def resW (τ : TypeId → Option TI) (x : D) : ResultVar → Option W
 | .tmp t => (match x.sl t with | .one w => some w | _ => none)
 | .cell t ty => (match τ ty, x.sl t with
  | some i, .one (.ptr o p) => (match x.ob o with
   | some cells => (match loadV i (cells.drop p) with | some (.one w) => some w | _ => none)
   | none => none)
  | _, _ => none)
def resWs (τ : TypeId → Option TI) (x : D) : List ResultVar → Option (List W)
 | [] => some []
 | r :: rs => match resW τ x r, resWs τ x rs with
  | some w, some ws => some (w :: ws)
  | _, _ => none
def retV (ws : List W) : V := match ws with
 | [w] => .one w
 | ws => .tup ws

/-- Where a result's cells lie. -/
def srcL (F : FA) : ResultVar → Nat → Loc
 | .tmp t, j => .s t 0 j
 | .cell t _, j => match F.shOf t with | .one (.ptr o p) => .oc o (p + j) | _ => .none

theorem resWs_get {τ : TypeId → Option TI} {x : D} : ∀ {rs : List ResultVar} {ws : List W}, resWs τ x rs = some ws → rs.length = ws.length ∧ ∀ (k : Nat) r, rs[k]? = some r → ∃ w, ws[k]? = some w ∧ resW τ x r = some w
 | [], ws, h => by cases h; exact ⟨rfl, fun k r h => by simp at h⟩
 | r :: rs, ws, h => by
  unfold resWs at h
  split at h <;> try cases h
  rename_i w ws' h1 h2
  obtain ⟨q1, q2⟩ := resWs_get h2
  refine ⟨by simp [q1], fun k r' hk => ?_⟩
  cases k with
  | zero => simp only [List.getElem?_cons_zero, Option.some.injEq] at hk ⊢; subst hk; exact ⟨w, rfl, h1⟩
  | succ k => simp only [List.getElem?_cons_succ] at hk ⊢; exact q2 k r' hk

def resRun (tmps : Array Value) : ResultVar → Sem Value
 | .tmp t => pure (tmps.getD t undef)
 | .cell a t => do loadVar t (← asAddr (tmps.getD a undef))

theorem run_mapM {α : Type} {P : Program} {w : World} (f : α → Sem Value) : ∀ {l : List α} {us : List Value}, l.length = us.length → (∀ (k : Nat) x u, l[k]? = some x → us[k]? = some u → (f x).run P w = .ok u w) → (l.mapM f).run P w = .ok us w
 | [], us, h, _ => by
  cases us with
  | nil => simp
  | cons u us => simp at h
 | x :: l, us, h, hf => by
  cases us with
  | nil => simp at h
  | cons u us =>
   have h1 := hf 0 x u rfl rfl
   have h2 := run_mapM f (l := l) (us := us) (by simpa using h) (fun k y v hy hv => hf (k + 1) y v (by simpa using hy) (by simpa using hv))
   simp [List.mapM_cons, Sem.run_bind, h1, h2]

def resultV (us : List Value) : Value := match us with
 | [u] => u
 | us => .tuple us.toArray

theorem run_results {P : Program} {w : World} {fn : Func} {tmps : Array Value} {us : List Value} (h : fn.results.toList.length = us.length) (hf : ∀ (k : Nat) x u, fn.results.toList[k]? = some x → us[k]? = some u → (resRun tmps x).run P w = .ok u w) :
  (results fn tmps).run P w = .ok (resultV us) w := by
 have h1 := run_mapM (P := P) (w := w) (resRun tmps) h hf
 have h2 : (results fn tmps) = (fn.results.mapM (resRun tmps) >>= fun vs => pure (if h : vs.size = 1 then vs[0] else .tuple vs)) := by
  unfold results
  congr 1
 rw [h2, Array.mapM_eq_mapM_toList]
 simp [h1]
 match us with
 | [] => simp [resultV]
 | [u] => simp [resultV]
 | u :: v :: r => simp [resultV]

/-- What a body's places are to the caller. -/
def idxTmp (t : Nat) : List ResultVar → Nat → Option Nat
 | [], _ => none
 | .tmp t' :: r, i => bif Nat.beq t' t then some i else idxTmp t r (i + 1)
 | _ :: r, i => idxTmp t r (i + 1)
def idxCell (F : FA) (o j : Nat) : List ResultVar → Nat → Option (Nat × Nat)
 | [], _ => none
 | .cell t _ :: r, i => (match F.shOf t with
  | .one (.ptr o' p) => bif Nat.beq o' o && Nat.ble p j then some (i, j - p) else idxCell F o j r (i + 1)
  | _ => idxCell F o j r (i + 1))
 | _ :: r, i => idxCell F o j r (i + 1)
def sigR (F : FA) (rs : List ResultVar) (n0 io : Option Nat) : Loc → Loc
 | .s t k j => bif Nat.beq k 0 then (match idxTmp t rs 0 with | some i => .s 0 i j | none => if io = some t ∧ j = 0 then .s 1 0 0 else .ext) else .ext
 | .oc o j => if par ≤ o then .oc o j else if n0 = some o then .oc 0 j else (match idxCell F o j rs 0 with | some (i, j') => .s 0 i j' | none => .ext)
 | .obj o => if par ≤ o then .obj o else if n0 = some o then .obj 0 else .ext
 | .none => .none
 | .ext => .ext

theorem sigR_relab (F : FA) (rs : List ResultVar) (n0 io : Option Nat) : Relab (sigR F rs n0 io) := by
 refine ⟨rfl, rfl, fun l hl o => ?_⟩
 cases l with
 | obj o' => exact absurd rfl (hl o')
 | none => simp [sigR]
 | ext => simp [sigR]
 | s t k j =>
  simp only [sigR]
  cases Nat.beq k 0 with
  | false => simp
  | true =>
   simp only [cond_true]
   split
   ·simp
   ·split <;> simp
 | oc o' j =>
  simp only [sigR]
  (repeat' split) <;> simp

def retO (n0 : Option Nat) (o : Nat) : Option Nat := if par ≤ o then some o else if n0 = some o then some 0 else none

/-- What is asked of a result. -/
def resRow (F : FA) (b : B) (σ : Loc → Loc) (r : ResultVar) (k : Nat) : Nat → List K → Bool
 | _, [] => true
 | j, q :: row => (b.kd (srcL F r j)).hand true q && (!q.hold || decide (σ (srcL F r j) = .s 0 k j)) && resRow F b σ r k (j + 1) row
theorem resRow_of {F : FA} {b : B} {σ : Loc → Loc} {r : ResultVar} {k : Nat} : ∀ {l : List K} {j0 : Nat}, resRow F b σ r k j0 l = true → ∀ {j : Nat} {q : K}, l[j]? = some q → (b.kd (srcL F r (j0 + j))).hand true q = true ∧ (q.hold = true → σ (srcL F r (j0 + j)) = .s 0 k (j0 + j))
 | [], _, _, j, q, h => by simp at h
 | p :: l, j0, h, 0, q, h2 => by
  simp only [resRow, Bool.and_eq_true] at h
  simp only [List.getElem?_cons_zero, Option.some.injEq] at h2
  subst h2
  refine ⟨h.1.1, fun hq => ?_⟩
  have := h.1.2
  rw [hq] at this
  simpa using this
 | p :: l, j0, h, j + 1, q, h2 => by
  simp only [resRow, Bool.and_eq_true] at h
  simp only [List.getElem?_cons_succ] at h2
  have := resRow_of h.2 h2
  rwa [show j0 + 1 + j = j0 + (j + 1) by omega] at this

def resOne (F : FA) (b : B) (bo : B) (σ : Loc → Loc) (k : Nat) (r : ResultVar) : Bool :=
 (match look 0 bo.sl with | some κ => (match κ[k]? with | some row => resRow F b σ r k 0 row | none => true) | none => true) &&
 (match r with
  | .tmp t => b.has t && (match F.shOf t with | .one (.cp _) => dfv (bo.kd (.s 0 k 0)) | .one (.al _ _) => false | .one (.pp _ _ _ _) => false | _ => true)
  | .cell t _ => b.has t && (match F.shOf t with | .one (.ptr o _) => b.hasO o | _ => false))
def resAll (F : FA) (b : B) (bo : B) (σ : Loc → Loc) : Nat → List ResultVar → Bool
 | _, [] => true
 | k, r :: rs => resOne F b bo σ k r && resAll F b bo σ (k + 1) rs
theorem resAll_of {F : FA} {b bo : B} {σ : Loc → Loc} : ∀ {l : List ResultVar} {k0 : Nat}, resAll F b bo σ k0 l = true → ∀ {k : Nat} {r : ResultVar}, l[k]? = some r → resOne F b bo σ (k0 + k) r = true
 | [], _, _, k, r, h => by simp at h
 | p :: l, k0, h, 0, r, h2 => by
  simp only [resAll, Bool.and_eq_true] at h
  simp only [List.getElem?_cons_zero, Option.some.injEq] at h2
  subst h2; exact h.1
 | p :: l, k0, h, k + 1, r, h2 => by
  simp only [resAll, Bool.and_eq_true] at h
  simp only [List.getElem?_cons_succ] at h2
  have := resAll_of h.2 h2
  rwa [show k0 + 1 + k = k0 + (k + 1) by omega] at this

theorem resOne_kd {F : FA} {b bo : B} {σ : Loc → Loc} {k : Nat} {r : ResultVar} (h : resOne F b bo σ k r = true) (j : Nat) : (b.kd (srcL F r j)).hand true (bo.kd (.s 0 k j)) = true ∧ ((bo.kd (.s 0 k j)).hold = true → σ (srcL F r j) = .s 0 k j) := by
 simp only [resOne, Bool.and_eq_true] at h
 have h := h.1
 simp only [B.kd, B.get] at h ⊢
 cases hl : look 0 bo.sl with
 | none => exact ⟨rfl, fun e => by cases e⟩
 | some κ =>
  rw [hl] at h
  simp only [kget] at h ⊢
  cases hr : κ[k]? with
  | none => exact ⟨rfl, fun e => by cases e⟩
  | some row =>
   rw [hr] at h
   cases hq : row[j]? with
   | none => simp only [hq]; exact ⟨rfl, fun e => by cases e⟩
   | some q =>
    have := resRow_of h hq
    simp only [Nat.zero_add] at this
    simp only [hq]
    exact this
end Go.Own

/- A function's contract out of its body's run. -/
namespace Go.Own
open Go.RowKit

theorem dfv_of {q : K} (h : dfv q = true) : q = .D ∨ q = .F ∨ q = .V := by cases q <;> simp_all [dfv]

/-- The objects behind a function. -/
def objsB (F : FA) (b bo : B) (n0 : Option Nat) : Bool := bo.ob.all fun p =>
 if par ≤ p.1 then b.hasO p.1 && handRow true (fun j => b.kd (.oc p.1 j)) 0 p.2
 else Nat.beq p.1 0 && (match n0 with | some o => !(decide (par ≤ o)) && b.hasO o && handRow true (fun j => b.kd (.oc o j)) 0 p.2 | none => false)

theorem objsB_of {F : FA} {b bo : B} {n0 : Option Nat} (h : objsB F b bo n0 = true) {oc : Nat} (ho : bo.hasO oc = true) : ∃ o1, retO n0 o1 = some oc ∧ b.hasO o1 = true ∧ ∀ j, (b.kd (.oc o1 j)).hand true (bo.kd (.oc oc j)) = true := by
 simp only [B.hasO] at ho
 cases hl : look oc bo.ob with
 | none => rw [hl] at ho; cases ho
 | some r =>
  have hm := List.all_eq_true.1 h _ (look_mem hl)
  simp only at hm
  have key : ∀ o1, handRow true (fun j => b.kd (.oc o1 j)) 0 r = true → ∀ j, (b.kd (.oc o1 j)).hand true (bo.kd (.oc oc j)) = true := fun o1 h1 j => by
   simp only [B.kd, B.get, hl] at h1 ⊢
   cases hq : r[j]? with
   | none => simp only [hq]; rfl
   | some q =>
    have := handRow_of h1 hq
    simp only [Nat.zero_add] at this
    simp only [hq]; exact this
  by_cases hp : par ≤ oc
  ·rw [if_pos hp, Bool.and_eq_true] at hm
   exact ⟨oc, by simp [retO, hp], hm.1, key oc hm.2⟩
  ·rw [if_neg hp, Bool.and_eq_true] at hm
   have h0 := Nat.eq_of_beq_eq_true hm.1
   subst h0
   have hm2 := hm.2
   cases hn : n0 with
   | none => rw [hn] at hm2; cases hm2
   | some o =>
    rw [hn] at hm2
    simp only [Bool.and_eq_true] at hm2
    obtain ⟨⟨m1, m2⟩, m3⟩ := hm2
    have m1' : ¬ par ≤ o := by simpa using m1
    exact ⟨o, by simp [retO, m1'], m2, key o m3⟩

theorem choose_list {α : Type} : ∀ {rs : List α} {Q : Nat → Value → Prop}, (∀ (k : Nat) r, rs[k]? = some r → ∃ u, Q k u) → ∃ us : List Value, rs.length = us.length ∧ ∀ (k : Nat) u, us[k]? = some u → Q k u
 | [], Q, _ => ⟨[], rfl, fun k u h => by simp at h⟩
 | r :: rs, Q, h => by
  obtain ⟨u, hu⟩ := h 0 r rfl
  obtain ⟨us, h1, h2⟩ := choose_list (rs := rs) (Q := fun k u => Q (k + 1) u) (fun k r hk => h (k + 1) r (by simpa using hk))
  refine ⟨u :: us, by simp [h1], fun k v hv => ?_⟩
  cases k with
  | zero => simp only [List.getElem?_cons_zero, Option.some.injEq] at hv; subst hv; exact hu
  | succ k => exact h2 k v (by simpa using hv)

theorem SimG.ret {P : Program} {τ : TypeId → Option TI} (hT : Tables P τ) {F : FA} {g0 : G} {w0 : World} {b : B} {x : D} {a : Act} {g : G} {w : World} {n : Nat} (h : SimG g0 w0 (b.S n x) a g w) (hA : Ag F b x) {rs : List ResultVar} {ws : List W} {bo : B} {n0 io : Option Nat} {ob : List (List T)} {nw : Option (List T)} {iov : Option T} {u1 : Value}
  (hws : resWs τ x rs = some ws) (hr : resAll F b bo (sigR F rs n0 io) 0 rs = true) (hob : objsB F b bo n0 = true) (hobd : ∀ oc o1, bo.hasO oc = true → retO n0 o1 = some oc → (DR ((retV ws).to (retO n0)) iov ob nw).ob oc = x.ob o1)
  (hio : ∀ z, io = some z → a.tmps.getD z undef = u1 ∧ b.has z = true ∧ (∃ t, x.sl z = .one (.c t) ∧ iov = some t) ∧ (b.kd (.s z 0 0)).hand true (bo.kd (.s 1 0 0)) = true ∧ ((bo.kd (.s 1 0 0)).hold = true → sigR F rs n0 io (.s z 0 0) = .s 1 0 0)) (hio0 : io = none → bo.has 1 = false)
  (hb2 : ∀ i, bo.has i = true → i < 2) : ∃ us : List Value, rs.length = us.length ∧ (∀ (k : Nat) r u, rs[k]? = some r → us[k]? = some u → (resRun a.tmps r).run P w = .ok u w) ∧ ∃ g', SimG g0 w0 (bo.S 2 (DR ((retV ws).to (retO n0)) iov ob nw)) ⟨#[resultV us, u1], []⟩ g' w := by
 let σ := sigR F rs n0 io
 have hσ : Relab σ := sigR_relab F rs n0 io
 let β' : Nat → Nat := fun o => if par ≤ o then g.β o else (n0.map g.β).getD 0
 have hβp : ∀ o, par ≤ o → β' o = g.β o := fun o h => by simp only [β', if_pos h]
 have hβ : ∀ o o', retO n0 o = some o' → β' o' = g.β o := by
  intro o o' h
  simp only [retO] at h
  split at h
  ·rename_i hp; cases h; exact hβp o hp
  ·split at h
   ·rename_i h1; cases h
    simp only [β', if_neg par_pos, h1, Option.map_some, Option.getD_some]
   ·cases h
 have hok' : GOk (g.relab σ β') w := ⟨fun b hb => h.ok.own b (fun e => hb (by show σ (g.own b) = .none; rw [e]; exact hσ.none))⟩
 obtain ⟨hlen, hget⟩ := resWs_get hws
 -- each result
 have hone : ∀ (k : Nat) r, rs[k]? = some r → ∃ u wk, ws[k]? = some wk ∧ (resRun a.tmps r).run P w = .ok u w ∧ RW (g.relab σ β') w (fun j => bo.kd (.s 0 k j)) (fun j => .s 0 k j) u (wk.to (retO n0)) := by
  intro k r hk
  obtain ⟨wk, hwk, hres⟩ := hget k r hk
  have hchk := resAll_of hr hk
  rw [Nat.zero_add] at hchk
  have hkd := fun j => resOne_kd hchk j
  simp only [resOne, Bool.and_eq_true] at hchk
  have hchk := hchk.2
  cases r with
  | tmp t =>
   simp only [Bool.and_eq_true] at hchk
   obtain ⟨c1, c2⟩ := hchk
   unfold resW at hres
   simp only at hres
   split at hres <;> try cases hres
   rename_i hx
   have hs := h.slots t
   rw [S_sl c1, hx] at hs
   have hs : RW g w (fun j => b.kd (.s t 0 j)) (fun j => .s t 0 j) (a.tmps.getD t undef) wk := hs
   refine ⟨a.tmps.getD t undef, wk, hwk, by simp [resRun], hs.to (fun o o' ho => hβ o o' ho) (fun j z u _ _ _ hf => hf.relab hσ h.ok rfl (hkd j).1 (hkd j).2) (fun zs e bb off hc => ?_)⟩
   have hf := hA.fits c1 (by rw [hx]; simp)
   rw [hx, e] at hf
   cases hs2 : F.shOf t with
   | tup ws => rw [hs2] at hf; simp [Own.fits] at hf
   | one y =>
    rw [hs2] at hf c2
    cases y <;> simp [Own.fits, fitsW] at hf
    exact hc.relab hσ (hkd 0).1 (dfv_of c2)
  | cell t ty =>
   simp only [Bool.and_eq_true] at hchk
   obtain ⟨c1, c2⟩ := hchk
   unfold resW at hres
   simp only at hres
   split at hres <;> try cases hres
   rename_i i o p hi hx
   split at hres <;> try cases hres
   rename_i cells hcells
   split at hres <;> try cases hres
   rename_i hload
   have hsh := sh_ptr hA (v := .tmp t) c1 hx
   have hsh : F.shOf t = .one (.ptr o p) := hsh
   rw [hsh] at c2
   have hsrc : ∀ j, srcL F (.cell t ty) j = .oc o (p + j) := fun j => by simp only [srcL, hsh]
   have hs := h.slots t
   rw [S_sl c1, hx] at hs
   have hptr : a.tmps.getD t undef = .pointer (some ⟨g.β o, p, none⟩) := hs
   obtain ⟨arr, ty', k1, k2, k3, k4⟩ := h.obs o cells (by rw [S_ob c2]; exact hcells)
   have hcell : ∀ (j : Nat) z, (cells.drop p)[j]? = some z → ∃ c, w.cell? ⟨g.β o, p + j, none⟩ = some c ∧ nagg c ∧ LF (g.relab σ β') w (bo.kd (.s 0 k j)) (.s 0 k j) c z := fun j z hz => by
    rw [List.getElem?_drop] at hz
    obtain ⟨c, d1, d2, d3⟩ := k4 _ z hz
    refine ⟨c, by rw [cell_of_row w _ _ arr ty' _ k1]; exact d1, d2, ?_⟩
    have q := hkd j
    rw [hsrc] at q
    exact LF.relab hσ h.ok rfl d3 q.1 q.2
   obtain ⟨u, r1, r2, r3, r4⟩ := load_core hT hi (l' := fun _ j => .s 0 k j) hcell hload (fun j c z hf => hf.cp hok' rfl)
   refine ⟨u, wk, hwk, ?_, ?_⟩
   ·simp only [resRun, hptr, asAddr, Sem.run_bind, Sem.run_pure, Result.andThen_ok, r1]
   ·have r2' : RV (g.relab σ β') w (fun _ j => if scalAt i.zero j then .S else (bo.kd (.s 0 k j)).cp) (fun _ j => .s 0 k j) u (.one wk) := r2
    have hto : wk.to (retO n0) = wk := by
     unfold loadV at hload
     split at hload <;> try cases hload
     split at hload
     ·cases hload; rfl
     ·split at hload <;> cases hload; rfl
    rw [hto]
    have := r2'.map (g' := g.relab σ β') (w' := w) (κ' := fun _ j => bo.kd (.s 0 k j)) (l' := fun _ j => .s 0 k j) (fun _ => rfl) (fun k' j z u' hz hu hn hf => by
     obtain ⟨q0, _⟩ := loadV_leaf hload hz
     subst q0
     obtain ⟨q1, q2⟩ := r4 j z hz
     obtain ⟨c, d1, d2, d3⟩ := hcell j z q1
     rw [hu] at q2
     have q2 : some u' = some c := q2.trans d1
     cases q2
     exact d3) (fun k' zs hz => by
     exfalso
     unfold loadV at hload
     split at hload <;> try cases hload
     split at hload
     ·cases hload; cases k' <;> simp [V.comp] at hz
     ·split at hload <;> cases hload
      cases k' <;> simp [V.comp] at hz)
    exact this
 obtain ⟨us, hul, hus⟩ := choose_list (rs := rs) (Q := fun k u => ∃ r wk, rs[k]? = some r ∧ ws[k]? = some wk ∧ (resRun a.tmps r).run P w = .ok u w ∧ RW (g.relab σ β') w (fun j => bo.kd (.s 0 k j)) (fun j => .s 0 k j) u (wk.to (retO n0))) (fun k r hk => by
  obtain ⟨u, wk, h1, h2, h3⟩ := hone k r hk
  exact ⟨u, r, wk, hk, h1, h2, h3⟩)
 refine ⟨us, hul, fun k r u hk hu => ?_, g.relab σ β', ?_⟩
 ·obtain ⟨r', wk, h1, _, h3, _⟩ := hus k u hu
  rw [hk] at h1; cases h1; exact h3
 -- the result's value
 have hres : RV (g.relab σ β') w (fun k j => bo.kd (.s 0 k j)) (fun k j => .s 0 k j) (resultV us) ((retV ws).to (retO n0)) := by
  have hwl : ws.length = us.length := by omega
  have hk : ∀ (k : Nat) u wk, us[k]? = some u → ws[k]? = some wk → RW (g.relab σ β') w (fun j => bo.kd (.s 0 k j)) (fun j => .s 0 k j) u (wk.to (retO n0)) := fun k u wk hu hw => by
   obtain ⟨r', wk', _, h2, _, h4⟩ := hus k u hu
   rw [hw] at h2; cases h2; exact h4
  have tuple : RV (g.relab σ β') w (fun k j => bo.kd (.s 0 k j)) (fun k j => .s 0 k j) (.tuple us.toArray) ((V.tup ws).to (retO n0)) := by
   refine ⟨us.toArray, rfl, by simp [hwl], fun k wk hw => ?_⟩
   rw [List.getElem?_map] at hw
   obtain ⟨w0', hw0, rfl⟩ := Option.map_eq_some_iff.1 hw
   have hlt : k < us.length := by have := get_lt hw0; omega
   exact ⟨us[k], by simp [hlt], hk k us[k] w0' (List.getElem?_eq_getElem hlt) hw0⟩
  match us, ws, hwl, hk, tuple with
  | [u], [w1], _, hk, _ => exact hk 0 u w1 rfl rfl
  | [], [], _, _, t => exact t
  | u :: u' :: us', w1 :: w2 :: ws', _, _, t => exact t
 refine h.relab hσ _ _ hβp (by simp [B.S]) (by show 2 ≤ par; unfold par; omega) rfl (fun i => ?_) (fun i => ?_) (fun oc cells hc => ?_)
 ·show rootOf (if bo.has i = true then (DR _ iov ob nw).sl i else .one .junk) = .none
  split
  ·match i with
   | 0 => exact V.to_root
   | 1 => simp only [DR]; cases iov <;> rfl
   | i + 2 => rfl
  ·rfl
 ·show RV _ w (fun k j => bo.kd (.s i k j)) _ (#[resultV us, u1].getD i undef) (if bo.has i = true then (DR _ iov ob nw).sl i else .one .junk)
  by_cases hb : bo.has i = true
  ·rw [if_pos hb]
   match i, hb2 i hb with
   | 0, _ => exact hres
   | 1, _ =>
    cases hz : io with
    | none => rw [hio0 hz] at hb; cases hb
    | some z =>
     obtain ⟨z1, z2, ⟨t, z3, z4⟩, z5, z6⟩ := hio z hz
     have hs := h.slots z
     rw [S_sl z2, z3] at hs
     rw [z1] at hs
     simp only [DR, z4]
     exact ⟨hs.1, LF.relab hσ h.ok rfl hs.2 z5 z6⟩
  ·rw [if_neg hb]; trivial
 ·have hc' : (if bo.hasO oc = true then (DR _ iov ob nw).ob oc else none) = some cells := hc
  split at hc' <;> try cases hc'
  rename_i hoc
  obtain ⟨o1, p1, p2, p3⟩ := objsB_of hob hoc
  have hsig : σ (.obj o1) = .obj oc ∧ ∀ j, σ (.oc o1 j) = .oc oc j := by
   simp only [retO] at p1
   split at p1
   ·rename_i hp; cases p1
    exact ⟨by show sigR _ _ _ _ _ = _; simp only [sigR, if_pos hp], fun j => by show sigR _ _ _ _ _ = _; simp only [sigR, if_pos hp]⟩
   ·rename_i hp
    split at p1
    ·rename_i hn; cases p1
     exact ⟨by show sigR _ _ _ _ _ = _; simp only [sigR, if_neg hp, if_pos hn], fun j => by show sigR _ _ _ _ _ = _; simp only [sigR, if_neg hp, if_pos hn]⟩
    ·cases p1
  refine ⟨o1, ?_, hβ o1 oc p1, hsig.1, fun j => ⟨p3 j, fun _ => hsig.2 j⟩⟩
  rw [S_ob p2, ← hobd oc o1 hoc p1]
  exact hc'
end Go.Own

/- A program's runs on data; and what is checked of its code without the data. -/
namespace Go.Own
open Go.RowKit

inductive Ek where
 | n | r | e (i : Nat)
 deriving DecidableEq
def Ek.exit : Ek → Exit
 | .n => .normal
 | .r => .ret
 | .e i => .exit i

def guardD (ds : List (Option Nat)) (x : D) : Option (Nat × Bool) → Option Bool
 | none => some true
 | some (j, want) => match ds[j]? with
  | some (some t) => (match x.sl t with
   | .one (.c (.bool b)) => some (b == want)
   | .tup [] => some false
   | _ => none)
  | _ => some false
def skipD (x : D) : Option Nat → D
 | some d => x.put d (.tup [])
 | none => x

/-- The objects that a call's values tell of. -/
def objsW : W → List Nat
 | .ptr o _ => [o]
 | .fn _ cs => cs.map (·.1)
 | _ => []
def addNew : List Nat → List Nat → List Nat
 | [], acc => acc
 | o :: r, acc => bif mem o acc then addNew r acc else addNew r (acc ++ [o])
def objsOp (F : FA) (v : Operand) : List Nat := match shOp F v with | .one w => objsW w | _ => []
/-- Is the call's first argument turned in place? -/
def ioArg (F : FA) (c : Call) : Bool := match c.args.toList with
 | .tmp t :: _ => mem t F.ioa
 | _ => false
def osOf (F : FA) (c : Call) (v : Operand) : List Nat := bif ioArg F c then [0, 0] else addNew (c.args.toList.flatMap (objsOp F) ++ objsOp F v) []
def ndOf (F : FA) (d : Option Nat) : Option Nat := match d with | some d => bif mem d F.nw then some d else none | none => none

/-- Data that a function is entered with have its shapes. -/
def shapesIn (F : FA) : Nat → List V → Bool
 | _, [] => true
 | i, v :: r => fits v (F.shOf i) && shapesIn F (i + 1) r
def shapesOb (F : FA) : Nat → List (List T) → Bool
 | _, [] => true
 | i, cs :: r => confs cs (F.obOf (par + i)) && shapesOb F (i + 1) r
def obsOut (x : D) : Nat → List (List T) → Option (List (List T))
 | _, [] => some []
 | i, _ :: r => match x.ob (par + i), obsOut x (i + 1) r with
  | some cs, some css => some (cs :: css)
  | _, _ => none

inductive Jd where
 | code (F : FA) (c : Code) (x : D) (e : Ek) (x' : D)
 | ops (F : FA) (ds : List (Option Nat)) (os : List Oper) (x x' : D)
 | fn (f : FuncId) (vs : List V) (ob : List (List T)) (r : V) (io : Option T) (ob' : List (List T)) (nw : Option (List T))

/-- What is turned in place, at the end. -/
def ioOut (z : Option Nat) (x : D) : Option (Option T) := match z with
 | none => some none
 | some z => (match x.sl z with | .one (.c t) => some (some t) | _ => none)

def inBlk (id : Nat) (e : Ek) : Ek := if e = .e id then .n else e

/-- Kinds in a row. -/
def rowsB : Nat → List (List (List K)) → List (Nat × List (List K))
 | _, [] => []
 | i, κ :: r => (i, κ) :: rowsB (i + 1) r
/-- What a function of the library takes and gives. -/
def libSg (q : List (List (List K)) × List (List K) × Bool) : Sg := { bi := { sl := rowsB 0 q.1, ob := [] }, bo := { sl := [(0, q.2.1)], ob := [] }, np := q.1.length, ext := q.2.2 }
/-- A run. -/
inductive Big (P : Program) (τ : TypeId → Option TI) (An : FuncId → FA) : Jd → Prop
 | skip (F : FA) (x : D) : Big P τ An (.code F .skip x .n x)
 | label (F : FA) (l : Nat) (x : D) : Big P τ An (.code F (.label l) x .n x)
 | exit (F : FA) (i : Nat) (x : D) : Big P τ An (.code F (.exit i) x (.e i) x)
 | ret (F : FA) (x : D) : Big P τ An (.code F .ret x .r x)
 | seqN {F : FA} {a b : Code} {x x1 x2 : D} {e : Ek} (h1 : Big P τ An (.code F a x .n x1)) (h2 : Big P τ An (.code F b x1 e x2)) : Big P τ An (.code F (.seq a b) x e x2)
 | seqX {F : FA} {a b : Code} {x x1 : D} {e : Ek} (h1 : Big P τ An (.code F a x e x1)) (he : e ≠ .n) : Big P τ An (.code F (.seq a b) x e x1)
 | cond {F : FA} {c : Operand} {a b : Code} {x x1 : D} {e : Ek} {t : Bool} (hc : ev x.sl c = .one (.c (.bool t))) (h1 : Big P τ An (.code F (if t then a else b) x e x1)) : Big P τ An (.code F (.cond c a b) x e x1)
 | block {F : FA} {id : Nat} {c : Code} {x x1 : D} {e : Ek} (h1 : Big P τ An (.code F c x e x1)) : Big P τ An (.code F (.block id c) x (inBlk id e) x1)
 | loopX {F : FA} {c : Code} {x x1 : D} {e : Ek} (h1 : Big P τ An (.code F c x e x1)) (he : e ≠ .n) : Big P τ An (.code F (.loop c) x e x1)
 | loopN {F : FA} {c : Code} {x x1 x2 : D} {e : Ek} (h1 : Big P τ An (.code F c x .n x1)) (h2 : Big P τ An (.code F (.loop c) x1 e x2)) : Big P τ An (.code F (.loop c) x e x2)
 | regionM {F : FA} {id : Nat} {x : D} {S : TypeId} {i : TI} {f : FuncId} {c : Call} {o p0 tp tk t t' r r0 r2 : Nat} {cells cells' : List T} {k k' : Int} {rs : List MR} {t1 t2 t3 t4 : TypeId} {p1 p2 p3 p4 : String} {f1 f2 f3 f4 : Array Edge} (hmk : look id F.mks = some (rs.map fun m => (m.off, m.g))) (hi : τ S = some i) (h1 : i.agg = false → i.size = 1)
   (hM : Marks P f i.agg i.size (rs.map fun m => (m.off, m.g))) (hle : p0 + i.size ≤ cells.length) (hc1 : c.callee = .value (.func f)) (hc2 : c.args = #[.tmp t, .tmp t']) (hr2 : r2 = r) (htp : x.sl tp = .one (.ptr o p0)) (htk : x.sl tk = vI k) (hob : x.ob o = some cells) (hch : chainM p0 rs cells k cells' k')
   (hB : ∀ m ∈ rs, Big P τ An (.fn m.g [.one (.c (.sl m.es)), .one (.c (.int .i64 m.k))] [] (.one (.c (.int .i64 m.k1))) (some (.sl m.es')) [] none)) :
   Big P τ An (.code F (.region id #[⟨some t, .load S (.tmp tp), t1, p1, f1, none⟩, ⟨some t', .move (.tmp tk), t2, p2, f2, none⟩, ⟨some r, .call c, t3, p3, f3, none⟩, ⟨some r0, .assign (.tmp r2), t4, p4, f4, none⟩] false) x .n ((D.updM o p0 rs x).put r0 (vI k')))
 | region {F : FA} {id : Nat} {ops : Array Oper} {dr : Bool} {x x1 : D} (hmk : look id F.mks = none) (h1 : Big P τ An (.ops F (ops.toList.map (·.dst)) ops.toList x x1)) : Big P τ An (.code F (.region id ops dr) x .n x1)
 | opsNil (F : FA) (ds : List (Option Nat)) (x : D) : Big P τ An (.ops F ds [] x x)
 | opsSkip {F : FA} {ds : List (Option Nat)} {o : Oper} {r : List Oper} {x x2 : D} (hg : guardD ds x o.guard = some false) (h2 : Big P τ An (.ops F ds r (skipD x o.dst) x2)) : Big P τ An (.ops F ds (o :: r) x x2)
 | opsRun {F : FA} {ds : List (Option Nat)} {o : Oper} {r : List Oper} {x x1 x2 : D} (hg : guardD ds x o.guard = some true) (h1 : dOp τ F x o = some x1) (h2 : Big P τ An (.ops F ds r x1 x2)) : Big P τ An (.ops F ds (o :: r) x x2)
 | opsCall {F : FA} {ds : List (Option Nat)} {o : Oper} {rs : List Oper} {x x2 : D} {c : Call} {v : Operand} {f : FuncId} {caps : List (Nat × Nat)} {ob ob' : List (List T)} {r : V} {nw : Option (List T)} (hg : guardD ds x o.guard = some true) (ho : o.op = .call c) (hcal : c.callee = .value v) (hni : ioArg F c = false)
   (hx : ev x.sl v = .one (.fn f caps)) (hth : c.args.toList.all (fun v => thereV (ev x.sl v)) = true) (hob : ob.map some = (osOf F c v).map x.ob) (h1 : Big P τ An (.fn f (inV x c caps (osOf F c v)) ob r none ob' nw))
   (hsh : callShapes F (x.call o.dst (ndOf F o.dst) (osOf F c v) (DR r none ob' nw)) o.dst (ndOf F o.dst) (osOf F c v) = true) (h2 : Big P τ An (.ops F ds rs (x.call o.dst (ndOf F o.dst) (osOf F c v) (DR r none ob' nw)) x2)) : Big P τ An (.ops F ds (o :: rs) x x2)
 | opsIo {F : FA} {ds : List (Option Nat)} {o : Oper} {rs : List Oper} {x x2 : D} {c : Call} {v : Operand} {f : FuncId} {r : V} {t : Nat} {xs : List Operand} {l : Loc} {p : List (Nat × Nat)} {x0 : T} {es es' : List (List T)} (hg : guardD ds x o.guard = some true) (ho : o.op = .call c) (hcal : c.callee = .value v) (hio : ioArg F c = true)
   (hx : ev x.sl v = .one (.fn f [])) (hth : c.args.toList.all (fun v => thereV (ev x.sl v)) = true) (hargs : c.args.toList = .tmp t :: xs) (hal : x.sl t = .one (.al l p)) (hat : x.at l = some x0) (hnav : nav x0 p = some (.sl es)) (h1 : Big P τ An (.fn f (inV x c [] []) [] r (some (.sl es')) [] none))
   (hsh : callShapes F (x.call o.dst none [] (DR r (some (.sl es')) [] none)) o.dst none [] = true) (h2 : Big P τ An (.ops F ds rs ((x.call o.dst none [] (DR r (some (.sl es')) [] none)).upd l (setAt x0 p (.sl es'))) x2)) : Big P τ An (.ops F ds (o :: rs) x x2)
 | fn {f : FuncId} {fn : Func} {c : Code} {vs : List V} {ob ob' : List (List T)} {e : Ek} {x' : D} {ws : List W} {iov : Option T} (hf : P.funcs[f]? = some fn) (hb : fn.body = some c) (hsh : shapesIn (An f) 0 vs = true) (hso : shapesOb (An f) 0 ob = true) (h1 : Big P τ An (.code (An f) c (DA vs ob) e x'))
   (he : e = .n ∨ e = .r) (hws : resWs τ x' fn.results.toList = some ws) (hio : ioOut (An f).io x' = some iov) (hob : obsOut x' 0 ob = some ob') : Big P τ An (.fn f vs ob ((retV ws).to (retO (An f).n0)) iov ob' ((An f).n0.bind x'.ob))
 | lib {f : FuncId} {fn : Func} {c : Code} {vs : List V} {r : V} {q : List (List (List K)) × List (List K) × Bool} (hf : P.funcs[f]? = some fn) (hb : fn.body = some c) (hq : (An f).lb = some q) (h1 : TC P f (libSg q) vs [] r none [] none) : Big P τ An (.fn f vs [] r none [] none)
/-- Code that has no run. -/
def deadO (o : Oper) : Bool := match o.dst, o.guard with
 | none, none => (match o.op with | .panic _ => true | _ => false)
 | _, _ => false
end Go.Own

/- What is checked of a region. -/
namespace Go.Own
open Go.RowKit

def leRow : List K → List K → Bool
 | _, [] => true
 | [], q :: r => decide (q = .D) && leRow [] r
 | p :: ps, q :: r => p.lo q && leRow ps r
def leRows : List (List K) → List (List K) → Bool
 | _, [] => true
 | [], q :: r => leRow [] q && leRows [] r
 | p :: ps, q :: r => leRow p q && leRows ps r

theorem leRow_of : ∀ {ps qs : List K}, leRow ps qs = true → ∀ {j : Nat} {q : K}, qs[j]? = some q → (match ps[j]? with | some p => p | none => .D).lo q = true
 | _, [], _, j, q, h => by simp at h
 | [], q :: r, h, 0, q', h2 => by
  simp only [leRow, Bool.and_eq_true] at h
  simp only [List.getElem?_cons_zero, Option.some.injEq] at h2
  subst h2
  rw [of_decide_eq_true h.1]; rfl
 | [], q :: r, h, j + 1, q', h2 => by
  simp only [leRow, Bool.and_eq_true] at h
  simp only [List.getElem?_cons_succ] at h2
  have := leRow_of h.2 h2
  simpa using this
 | p :: ps, q :: r, h, 0, q', h2 => by
  simp only [leRow, Bool.and_eq_true] at h
  simp only [List.getElem?_cons_zero, Option.some.injEq] at h2
  subst h2
  exact h.1
 | p :: ps, q :: r, h, j + 1, q', h2 => by
  simp only [leRow, Bool.and_eq_true] at h
  simp only [List.getElem?_cons_succ] at h2 ⊢
  exact leRow_of h.2 h2

theorem leRows_of : ∀ {ps qs : List (List K)}, leRows ps qs = true → ∀ {k : Nat} {r : List K}, qs[k]? = some r → leRow (match ps[k]? with | some p => p | none => []) r = true
 | _, [], _, j, q, h => by simp at h
 | [], q :: r, h, 0, q', h2 => by
  simp only [leRows, Bool.and_eq_true] at h
  simp only [List.getElem?_cons_zero, Option.some.injEq] at h2
  subst h2; exact h.1
 | [], q :: r, h, j + 1, q', h2 => by
  simp only [leRows, Bool.and_eq_true] at h
  simp only [List.getElem?_cons_succ] at h2
  have := leRows_of h.2 h2
  simpa using this
 | p :: ps, q :: r, h, 0, q', h2 => by
  simp only [leRows, Bool.and_eq_true] at h
  simp only [List.getElem?_cons_zero, Option.some.injEq] at h2
  subst h2; exact h.1
 | p :: ps, q :: r, h, j + 1, q', h2 => by
  simp only [leRows, Bool.and_eq_true] at h
  simp only [List.getElem?_cons_succ] at h2 ⊢
  exact leRows_of h.2 h2

/-- b' tells no more than b. -/
def leB (b' b : B) : Bool := b'.sl.all (fun p => match look p.1 b.sl with | some κ => leRows κ p.2 | none => false) && b'.ob.all (fun p => match look p.1 b.ob with | some r => leRow r p.2 | none => false)

theorem leB_of {b' b : B} (h : leB b' b = true) : (∀ i, b'.has i = true → b.has i = true) ∧ (∀ o, b'.hasO o = true → b.hasO o = true) ∧ ∀ l, (b.kd l).lo (b'.kd l) = true := by
 simp only [leB, Bool.and_eq_true] at h
 refine ⟨fun i hi => ?_, fun o ho => ?_, fun l => ?_⟩
 ·simp only [B.has] at hi ⊢
  cases hl : look i b'.sl with
  | none => rw [hl] at hi; cases hi
  | some κ =>
   have := List.all_eq_true.1 h.1 _ (look_mem hl)
   simp only at this
   split at this
   ·rename_i hb; rw [hb]; rfl
   ·cases this
 ·simp only [B.hasO] at ho ⊢
  cases hl : look o b'.ob with
  | none => rw [hl] at ho; cases ho
  | some κ =>
   have := List.all_eq_true.1 h.2 _ (look_mem hl)
   simp only at this
   split at this
   ·rename_i hb; rw [hb]; rfl
   ·cases this
 ·cases hg : b'.get l with
  | none =>
   have : b'.kd l = .D := by simp only [B.kd, hg]
   rw [this]; exact lo_D _
  | some q =>
   have hq : b'.kd l = q := by simp only [B.kd, hg]
   rw [hq]
   cases l with
   | s i k j =>
    simp only [B.get] at hg
    cases hl : look i b'.sl with
    | none => rw [hl] at hg; cases hg
    | some κ =>
     rw [hl] at hg
     simp only [kget] at hg
     have := List.all_eq_true.1 h.1 _ (look_mem hl)
     simp only at this
     cases hb : look i b.sl with
     | none => rw [hb] at this; cases this
     | some κ2 =>
      rw [hb] at this
      have this : leRows κ2 κ = true := this
      cases hr : κ[k]? with
      | none => rw [hr] at hg; cases hg
      | some r =>
       rw [hr] at hg
       have h2 := leRow_of (leRows_of this hr) hg
       have e : b.kd (.s i k j) = (match (match κ2[k]? with | some p => p | none => [])[j]? with | some p => p | none => .D) := by
        simp only [B.kd, B.get, hb, kget]
        cases κ2[k]? with
        | none => rfl
        | some r0 => simp only; cases r0[j]? <;> rfl
       rw [e]; exact h2
   | oc o j =>
    simp only [B.get] at hg
    cases hl : look o b'.ob with
    | none => rw [hl] at hg; cases hg
    | some r =>
     rw [hl] at hg
     have := List.all_eq_true.1 h.2 _ (look_mem hl)
     simp only at this
     cases hb : look o b.ob with
     | none => rw [hb] at this; cases this
     | some r2 =>
      rw [hb] at this
      have h2 := leRow_of this hg
      have e : b.kd (.oc o j) = (match r2[j]? with | some p => p | none => .D) := by
       simp only [B.kd, B.get, hb]
       cases r2[j]? <;> rfl
      rw [e]; exact h2
   | _ => cases hg

/-- b' may be told where b is. -/
def Cv (F : FA) (b b' : B) : Prop := ∀ x, Ag F b x → Ag F b' x ∧ ∀ g0 w0 a w, Sim g0 w0 (b.S F.n x) a w → Sim g0 w0 (b'.S F.n x) a w
theorem Cv.refl (F : FA) (b : B) : Cv F b b := fun _ h => ⟨h, fun _ _ _ _ h => h⟩
theorem Cv.trans {F : FA} {a b c : B} (h : Cv F a b) (k : Cv F b c) : Cv F a c := fun x hA => by
 obtain ⟨h1, h2⟩ := h x hA
 obtain ⟨k1, k2⟩ := k x h1
 exact ⟨k1, fun g0 w0 a w hs => k2 g0 w0 a w (h2 g0 w0 a w hs)⟩

theorem lo_ne_D {a b : K} (h : a.lo b = true) (hb : b ≠ .D) : a ≠ .D := fun e => by subst e; cases b <;> simp [K.lo] at h hb

theorem leB_cv {F : FA} {b' b : B} (h : leB b' b = true) : Cv F b (b'.nrm F) := fun x hA => by
 obtain ⟨h1, h2, h3⟩ := leB_of h
 have hA' : Ag F b' x := ⟨fun i hi => hA.sl i (h1 i hi), fun o ho => hA.ob o (h2 o ho)⟩
 refine ⟨hA'.nrm, fun g0 w0 a w hs => hs.relax (Low.le hA' ⟨rfl, fun i hi => S_sl (h1 i hi), fun o ho => S_ob (h2 o ho), fun l t _ _ => h3 l, fun i k xs _ _ => h3 _, fun i _ _ hf => lo_ne_D (h3 _) hf⟩)⟩

/-! ### a step -/
def firstC {α β : Type} (f : α → Option β) : List α → Option β
 | [] => none
 | a :: r => match f a with | some b => some b | none => firstC f r
theorem firstC_of {α β : Type} {f : α → Option β} : ∀ {l : List α} {b : β}, firstC f l = some b → ∃ a ∈ l, f a = some b
 | [], b, h => by cases h
 | a :: r, b, h => by
  unfold firstC at h
  split at h
  ·rename_i b' hb; cases h; exact ⟨a, List.mem_cons_self, hb⟩
  ·obtain ⟨a', h1, h2⟩ := firstC_of h; exact ⟨a', List.mem_cons_of_mem _ h1, h2⟩

def fzL (F : FA) (b : B) : Option Nat → List Loc
 | some d => bif mem d F.fz then (holds F b d).map fun m => .s d m.1 m.2 else []
 | none => []
def guardB (ds : List (Option Nat)) (b : B) : Option (Nat × Bool) → Bool
 | none => true
 | some (j, _) => match ds[j]? with
  | some (some t) => b.has t
  | _ => true
/-- The step, or nothing: what is told behind a guard. -/
def unlessB (F : FA) (b b1 : B) (d : Option Nat) : Bool := match d with
 | some d => Nat.blt d F.n && leB (b1.filt fun i => !(Nat.beq i d)) b && b1.sl.all (fun p => Nat.beq p.1 d || !(inSlot d (rootOf (F.shOf p.1))))
 | none => false

def callC (Sg : FuncId → List Sg) (F : FA) (b : B) (o : Oper) (c : Call) (v : Operand) : Option B := match shOp F v with
 | .one (.fn f caps) => firstC (fun sg => bif Nat.beq sg.np (c.args.toList.length + caps.length) && Nat.beq sg.no (osOf F c v).length then cCall F b sg c v o.dst (ndOf F o.dst) (osOf F c v) else none) (Sg f)
 | _ => none
def ioC (Sg : FuncId → List Sg) (F : FA) (b : B) (o : Oper) (c : Call) (v : Operand) : Option B := match shOp F v with
 | .one (.fn f caps) => firstC (fun sg => bif Nat.beq sg.np c.args.toList.length && Nat.beq caps.length 0 && Nat.beq sg.no 0 then cIo F b sg c v o.dst else none) (Sg f)
 | _ => none
def calleeV (o : Oper) : Option (Call × Operand) := match o.op with
 | .call c => (match c.callee with | .value v => some (c, v) | _ => none)
 | _ => none
def runC (τ : TypeId → Option TI) (Sg : FuncId → List Sg) (F : FA) (b : B) (o : Oper) : Option B := match calleeV o with
 | some (c, v) => bif ioArg F c then ioC Sg F b o c v else callC Sg F b o c v
 | none => cOp τ F b o
def stepC (τ : TypeId → Option TI) (Sg : FuncId → List Sg) (F : FA) (ds : List (Option Nat)) (b : B) (o : Oper) : Option B := match runC τ Sg F b o with
 | some b1 => bif guardB ds b o.guard && (match o.guard with | none => true | some _ => unlessB F b (b1.frz F (fzL F b1 o.dst)) o.dst) then some ((b1.frz F (fzL F b1 o.dst)).nrm F) else none
 | none => none
def opsC (τ : TypeId → Option TI) (Sg : FuncId → List Sg) (F : FA) (ds : List (Option Nat)) : B → List Oper → Option B
 | b, [] => some b
 | b, o :: r => match stepC τ Sg F ds b o with | some b1 => opsC τ Sg F ds b1 r | none => none

theorem frz_cv {F : FA} (L : List Loc) (b : B) : Cv F b (b.frz F L) := fun x hA => by
 obtain ⟨h1, h2⟩ := frz_S (n := F.n) L hA
 exact ⟨h1, fun g0 w0 a w hs => h2 hs⟩

/-- Skipped. -/
theorem skip_S {F : FA} {b b1 : B} {x : D} {d : Option Nat} (hA : Ag F b x) (h : unlessB F b b1 d = true) : Ag F (b1.nrm F) (skipD x d) ∧ ∀ g0 w0 a w, Sim g0 w0 (b.S F.n x) a w → Sim g0 w0 ((b1.nrm F).S F.n (skipD x d)) (a.put d undef) w := by
 cases d with
 | none => cases h
 | some d =>
  simp only [unlessB, Bool.and_eq_true] at h
  obtain ⟨⟨h0, h1⟩, h2⟩ := h
  obtain ⟨q1, q2, q3⟩ := leB_of h1
  have hhas : ∀ i, i ≠ d → b1.has i = true → b.has i = true := fun i e hi => q1 i (by rw [filt_has, hi, beq_false e]; rfl)
  have hroot : ∀ i, i ≠ d → b1.has i = true → inSlot d (rootOf (F.shOf i)) = false := fun i e hi => by
   simp only [B.has] at hi
   cases hl : look i b1.sl with
   | none => rw [hl] at hi; cases hi
   | some κ =>
    have := List.all_eq_true.1 h2 _ (look_mem hl)
    simp only [beq_false e, Bool.false_or] at this
    simpa using this
  have hkd : ∀ i k j, i ≠ d → (b.kd (.s i k j)).lo (b1.kd (.s i k j)) = true := fun i k j e => by
   have := q3 (.s i k j)
   rwa [filt_kd_of (by rw [beq_false e]; rfl)] at this
  have hA1 : Ag F b1 (skipD x (some d)) := by
   refine ⟨fun i hi => ?_, fun o ho => hA.ob o (q2 o ho)⟩
   by_cases e : i = d
   ·subst e; left; simp [skipD, D.put]
   ·have := hA.sl i (hhas i e hi)
    simpa [skipD, D.put, e] using this
  refine ⟨hA1.nrm, fun g0 w0 a w hs => ?_⟩
  obtain ⟨g, hs⟩ := hs
  have h3 := hs.set (u := undef) (r := .tup []) (κ := fun _ _ => .D) (blt_of h0) ⟨#[], rfl, rfl, fun k x hx => by simp at hx⟩ (fun h => absurd rfl h)
  refine ⟨g, h3.relax (Low.le hA1 ⟨rfl, fun i hi => ?_, fun o ho => S_ob (n := F.n) (q2 o ho), fun l t hL ht => ?_, fun i k xs hi hx => ?_, fun i hi hr hf => ?_⟩)⟩
  ·by_cases e : i = d
   ·subst e; simp [St.put, skipD, D.put]
   ·simp only [St.put, skipD, D.put, if_neg e]; exact S_sl (hhas i e hi)
  ·cases l with
   | s i k j =>
    by_cases e : i = d
    ·subst e
     exfalso
     simp [D.at, atL, skipD, D.put, V.leaf] at ht
    ·have hf : ((b.S F.n x).put d (.tup []) (fun _ _ => .D)).fl (.s i k j) = b.kd (.s i k j) := by
      simp only [St.put, if_neg e]
      rw [if_neg]
      ·rfl
      ·rintro ⟨_, _, h5⟩
       rw [S_sl (hhas i e hL)] at h5
       rcases hA.sl i (hhas i e hL) with e2 | e2
       ·rw [e2] at h5; cases h5
       ·rw [fits_root e2, hroot i e hL] at h5; cases h5
     rw [hf]; exact hkd i k j e
   | oc o j => exact q3 (.oc o j)
   | _ => cases hL
  ·by_cases e : i = d
   ·subst e
    simp [skipD, D.put, V.comp] at hx
   ·have hf : ((b.S F.n x).put d (.tup []) (fun _ _ => .D)).fl (.s i k 0) = b.kd (.s i k 0) := by
     simp only [St.put, if_neg e]
     rw [if_neg]
     ·rfl
     ·rintro ⟨_, _, h5⟩
      rw [S_sl (hhas i e hi)] at h5
      rcases hA.sl i (hhas i e hi) with e2 | e2
      ·rw [e2] at h5; cases h5
      ·rw [fits_root e2, hroot i e hi] at h5; cases h5
    rw [hf]; exact hkd i k 0 e
  ·by_cases e : i = d
   ·subst e
    exact absurd (show rootOf ((skipD x (some i)).sl i) = .none by simp [skipD, D.put, rootOf]) hr
   ·have hf2 : ((b.S F.n x).put d (.tup []) (fun _ _ => .D)).fl (.s i 0 0) = b.kd (.s i 0 0) := by
     simp only [St.put, if_neg e]
     rw [if_neg]
     ·rfl
     ·rintro ⟨_, _, h5⟩
      rw [S_sl (hhas i e hi)] at h5
      rcases hA.sl i (hhas i e hi) with e2 | e2
      ·rw [e2] at h5; cases h5
      ·rw [fits_root e2, hroot i e hi] at h5; cases h5
    rw [hf2]; exact lo_ne_D (hkd i 0 0 e) hf
end Go.Own

/- What an operation looks at, and what it changes, of the data. -/
namespace Go.Own
open Go.RowKit

/-- A change of data: one slot, some objects. -/
structure Eff where
  d : Option Nat
  u : V
  ob : Nat → Option (Option (List T))
def Eff.on (E : Eff) (x : D) : D :=
  { sl := fun i => if E.d = some i then E.u else x.sl i
    ob := fun o => match E.ob o with | some c => c | none => x.ob o }
def Eff.put (d : Nat) (u : V) : Eff := ⟨some d, u, fun _ => none⟩
def Eff.skip (d : Option Nat) : Eff := ⟨d, .tup [], fun _ => none⟩
def Eff.new (d : Nat) (u : V) (cs : List T) : Eff := ⟨some d, u, fun o => if o = d then some (some cs) else none⟩
def Eff.call (d nd : Option Nat) (os : List Nat) (y : D) : Eff := ⟨d, (y.sl 0).to (outN os nd), fun o => match innN os nd o with | some oc => some (y.ob oc) | none => none⟩

theorem D.ext {x y : D} (h1 : ∀ i, x.sl i = y.sl i) (h2 : ∀ o, x.ob o = y.ob o) : x = y := by
  cases x; cases y
  simp only [D.mk.injEq]
  exact ⟨funext h1, funext h2⟩

theorem Eff.put_on (d : Nat) (u : V) (x : D) : (Eff.put d u).on x = x.put d u := D.ext (fun i => by
  simp only [Eff.on, Eff.put, D.put, Option.some.injEq]
  by_cases e : d = i
  · rw [if_pos e, if_pos e.symm]
  · rw [if_neg e, if_neg (fun h => e h.symm)]) (fun _ => rfl)
theorem Eff.skip_on (d : Option Nat) (x : D) : (Eff.skip d).on x = skipD x d := D.ext (fun i => by
  cases d with
  | none => simp [Eff.on, Eff.skip, skipD]
  | some d =>
    simp only [Eff.on, Eff.skip, skipD, D.put, Option.some.injEq]
    by_cases e : d = i
    · rw [if_pos e, if_pos e.symm]
    · rw [if_neg e, if_neg (fun h => e h.symm)]) (fun _ => by cases d <;> rfl)
theorem Eff.new_on (d : Nat) (u : V) (cs : List T) (x : D) : (Eff.new d u cs).on x = (x.put d u).setO d cs := D.ext (fun i => by
  simp only [Eff.on, Eff.new, D.put, D.setO, Option.some.injEq]
  by_cases e : d = i
  · rw [if_pos e, if_pos e.symm]
  · rw [if_neg e, if_neg (fun h => e h.symm)]) (fun o => by
  simp only [Eff.on, Eff.new, D.put, D.setO]
  by_cases e : o = d
  · rw [if_pos e, if_pos e]
  · rw [if_neg e, if_neg e])
theorem Eff.call_on (d nd : Option Nat) (os : List Nat) (y x : D) : (Eff.call d nd os y).on x = x.call d nd os y := D.ext (fun _ => rfl) (fun o => by
  simp only [Eff.on, Eff.call, D.call]
  cases innN os nd o <;> rfl)

/-- What an operand tells, and what it points to. -/
def Same (x y : D) (v : Operand) : Prop := ev y.sl v = ev x.sl v ∧ (match ev x.sl v with
  | .one (.ptr ob _) => y.ob ob = x.ob ob
  | .one (.pp l _ _ _) => y.at l = x.at l
  | .one (.al l _) => y.at l = x.at l
  | _ => True)

theorem Same.evD {x y : D} {v : Operand} (h : Same x y v) : evD y v = evD x v := by
  unfold Own.evD
  rw [h.1]
  have h2 := h.2
  unfold resV
  split
  · rename_i l p e
    rw [e] at h2
    have h2 : atL y.sl y.ob l = atL x.sl x.ob l := h2
    rw [h2]
  · rfl

section
variable {τ : TypeId → Option TI} {F : FA} {x y x1 : D} {o : Oper}

/-- It changes one slot. -/
def PutAt (f : D → Option D) (x y x1 : D) (d : Nat) : Prop := ∃ u, x1 = x.put d u ∧ f y = some (y.put d u)

theorem putD_at {d : Nat} {v : V} {f : D → Option D} (h : putD F x d v = some x1) (hy : f y = putD F y d v) : PutAt f x y x1 d := by
  obtain ⟨h1, rfl⟩ := putD_some h
  exact ⟨v, rfl, by rw [hy]; unfold putD; rw [h1]; rfl⟩

theorem move_at {d : Nat} {v : Operand} (hs : Same x y v) (h : dMove F x d v = some x1) : PutAt (fun y => dMove F y d v) x y x1 d := by
  unfold dMove at h
  obtain ⟨hc, h⟩ := cond_some h
  exact putD_at h (by simp only [dMove, hs.1, hc, cond_true])
theorem alias_at {d : Nat} {v : Operand} (hs : Same x y v) (h : dAlias F x d v = some x1) : PutAt (fun y => dAlias F y d v) x y x1 d := by
  unfold dAlias at h
  split at h <;> try cases h
  rename_i t
  split at h <;> try cases h
  rename_i e
  have h1 : y.sl t = x.sl t := hs.1
  exact putD_at h (by simp only [dAlias, h1, e])
theorem extract_at {d k : Nat} {v : Operand} (hs : Same x y v) (h : dExtract F x d k v = some x1) : PutAt (fun y => dExtract F y d k v) x y x1 d := by
  unfold dExtract at h
  split at h <;> try cases h
  rename_i t
  split at h <;> try cases h
  rename_i ws e
  split at h <;> try cases h
  rename_i w e2
  have h1 : y.sl t = x.sl t := hs.1
  exact putD_at h (by simp only [dExtract, h1, e, e2])
theorem pick_at {d : Nat} {c v z : Operand} (h1 : Same x y c) (h2 : Same x y v) (h3 : Same x y z) (h : dPick F x d c v z = some x1) : PutAt (fun y => dPick F y d c v z) x y x1 d := by
  unfold dPick at h
  split at h <;> try cases h
  all_goals
    rename_i e
    split at h <;> try cases h
    rename_i e2
    obtain ⟨hc, h⟩ := cond_some h
    exact putD_at h (by simp only [dPick, h1.1, h2.1, h3.1, e, e2, hc, cond_true])
theorem field_at {d : Nat} {s : TypeId} {v : Operand} {f : Nat} (hs : Same x y v) (h : dField τ F x d s v f = some x1) : PutAt (fun y => dField τ F y d s v f) x y x1 d := by
  unfold dField at h
  split at h <;> try cases h
  rename_i e
  split at h <;> try cases h
  rename_i e2
  split at h <;> try cases h
  rename_i e3
  exact putD_at h (by simp only [dField, hs.1, e, e2, e3])
theorem nil_at {d : Nat} {v : Operand} (hs : Same x y v) (h : dNil F x d v = some x1) : PutAt (fun y => dNil F y d v) x y x1 d := by
  unfold dNil at h
  split at h <;> try cases h
  all_goals
    rename_i e
    exact putD_at h (by simp only [dNil, hs.1, e])
theorem func_at {d : Nat} {f : FuncId} {caps : Array Operand} (hs : ∀ v ∈ caps.toList, Same x y v) (h : dFunc F x d f caps = some x1) : PutAt (fun y => dFunc F y d f caps) x y x1 d := by
  unfold dFunc at h
  split at h <;> try cases h
  rename_i e
  have : caps.toList.map (ev y.sl) = caps.toList.map (ev x.sl) := List.map_congr_left fun v hv => (hs v hv).1
  exact putD_at h (by simp only [dFunc, this, e])
theorem read_at {d : Nat} {op : Op} (hs : ∀ v ∈ op.operands, Same x y v) (h : dRead τ F x d op = some x1) : PutAt (fun y => dRead τ F y d op) x y x1 d := by
  unfold dRead at h
  split at h <;> try cases h
  rename_i e
  exact putD_at h (by simp only [dRead, readV_congr op (fun v hv => (hs v hv).evD), e])
theorem indexS_at {d : Nat} {t : TypeId} {v i : Operand} (h1 : Same x y v) (h2 : Same x y i) (h : dIndexS τ F x d t v i = some x1) : PutAt (fun y => dIndexS τ F y d t v i) x y x1 d := by
  unfold dIndexS at h
  split at h <;> try cases h
  rename_i s e k n es e0 e1 e2
  split at h <;> try cases h
  rename_i row e4
  exact putD_at h (by simp only [dIndexS, h1.1, h2.1, e0, e1, e2, e4])
theorem index_at {d : Nat} {t : TypeId} {v i : Operand} (h1 : Same x y v) (h2 : Same x y i) (h : dIndex τ F x d t v i = some x1) : PutAt (fun y => dIndex τ F y d t v i) x y x1 d := by
  unfold dIndex at h
  split at h <;> try cases h
  · rename_i e0 e1
    split at h <;> try cases h
    · rename_i l p e2
      split at h <;> try cases h
      rename_i es e3
      split at h <;> try cases h
      rename_i e4
      have h3 := h1.2
      rw [e2] at h3
      have h3 : y.at l = x.at l := h3
      exact putD_at h (by simp only [dIndex, h1.1, h2.1, e0, e1, e2, h3, e3, e4])
    · rename_i es e2
      split at h <;> try cases h
      rename_i e4
      exact putD_at h (by simp only [dIndex, h1.1, h2.1, e0, e1, e2, e4])
  · rename_i e0 e1
    split at h <;> try cases h
    rename_i e2 e3
    split at h <;> try cases h
    rename_i e4
    exact putD_at h (by simp only [dIndex, h1.1, h2.1, e0, e1, e2, e3]; rw [if_pos e4])
theorem load_at {d : Nat} {t : TypeId} {v : Operand} {al : Bool} (h1 : Same x y v) (h : dLoad τ F x d t v al = some x1) : PutAt (fun y => dLoad τ F y d t v al) x y x1 d := by
  unfold dLoad at h
  split at h <;> try cases h
  · rename_i e0 e1
    have h3 := h1.2
    rw [e1] at h3
    split at h <;> try cases h
    rename_i e2
    simp only at h3
    cases al with
    | true =>
      simp only [cond_true] at h
      obtain ⟨hc, h⟩ := cond_some h
      exact putD_at h (by simp only [dLoad, h1.1, e0, e1, h3, e2, cond_true, hc])
    | false =>
      simp only [cond_false] at h
      split at h <;> try cases h
      rename_i e3
      exact putD_at h (by simp only [dLoad, h1.1, e0, e1, h3, e2, cond_false, e3])
  · rename_i e0 e1
    split at h <;> try cases h
    rename_i e2
    exact putD_at h (by simp only [dLoad, h1.1, e0, e1, e2])
  · rename_i l p n j e0 e1
    have h3 := h1.2
    rw [e1] at h3
    have h3 : y.at l = x.at l := h3
    split at h <;> try cases h
    rename_i e2
    split at h <;> try cases h
    rename_i e3
    cases al with
    | true =>
      simp only [cond_true] at h
      obtain ⟨hc, h⟩ := cond_some h
      exact putD_at h (by simp only [dLoad, h1.1, e0, e1, h3, e2, e3, cond_true, hc])
    | false =>
      simp only [cond_false] at h
      split at h <;> try cases h
      rename_i e4
      exact putD_at h (by simp only [dLoad, h1.1, e0, e1, h3, e2, e3, cond_false, e4])
theorem append_at {d : Nat} {t u : TypeId} {v z : Operand} (h1 : Same x y v) (h2 : Same x y z) (h : dAppend τ F x d t u v z = some x1) : PutAt (fun y => dAppend τ F y d t u v z) x y x1 d := by
  unfold dAppend at h
  split at h <;> try cases h
  rename_i e0
  split at h <;> try cases h
  rename_i e1 e2 e3
  obtain ⟨hc, h⟩ := cond_some h
  exact putD_at h (by simp only [dAppend, h1.1, h2.1, e0, e1, e2, e3, hc, cond_true])
theorem lit_at {d : Nat} {t : TypeId} {n : Nat} {parts : Array (Nat × Operand)} (hs : ∀ v ∈ parts.toList.map (·.2), Same x y v) (h : dLit τ F x d t n parts = some x1) : PutAt (fun y => dLit τ F y d t n parts) x y x1 d := by
  unfold dLit at h
  split at h <;> try cases h
  rename_i e0
  split at h <;> try cases h
  rename_i e1 e2
  obtain ⟨hc, h⟩ := cond_some h
  have : (parts.toList.map (·.2)).map (ev y.sl) = (parts.toList.map (·.2)).map (ev x.sl) := List.map_congr_left fun v hv => (hs v hv).1
  exact putD_at h (by simp only [dLit, this, e0, e1, e2, hc, cond_true])
theorem make_at {d : Nat} {t : TypeId} {v z : Operand} (h1 : Same x y v) (h2 : Same x y z) (h : dMake τ F x d t v z = some x1) : PutAt (fun y => dMake τ F y d t v z) x y x1 d := by
  unfold dMake at h
  split at h <;> try cases h
  rename_i e0
  split at h <;> try cases h
  rename_i e1 e2 e3
  split at h <;> try cases h
  rename_i e4
  exact putD_at h (by simp only [dMake, h1.1, h2.1, e0, e1, e2, e3]; rw [if_pos e4])
theorem build_at {d : Nat} {t : TypeId} {parts : Array (Nat × Operand)} (hs : ∀ v ∈ parts.toList.map (·.2), Same x y v) (h : dBuild τ F x d t parts = some x1) : PutAt (fun y => dBuild τ F y d t parts) x y x1 d := by
  unfold dBuild at h
  split at h <;> try cases h
  rename_i e0
  split at h <;> try cases h
  rename_i e1
  split at h <;> try cases h
  rename_i e2
  have : parts.toList.map (fun p => (p.1, ev y.sl p.2)) = parts.toList.map (fun p => (p.1, ev x.sl p.2)) := List.map_congr_left fun p hp => by rw [(hs p.2 (List.mem_map.2 ⟨p, hp, rfl⟩)).1]
  exact putD_at h (by simp only [dBuild, this, e0, e1, e2])

/-- The objects that it makes. -/
def newO (o : Oper) : List Nat := match o.dst, o.op with
  | some d, .alloc _ => [d]
  | some d, .box _ _ => [d]
  | _, _ => []
def isStore (o : Oper) : Bool := match o.op with | .store _ _ _ => true | _ => false
/-- Does it take out of a place? -/
def isTk (F : FA) (o : Oper) : Bool := match o.dst, o.op with
  | some d, .load _ v => mem d F.tk && (!(mem d F.al) && isPp F v)
  | _, _ => false
def noTk (F : FA) (x : D) (o : Oper) : Prop := ∀ d t v, o.dst = some d → o.op = .load t v → (mem d F.tk && (!(mem d F.al) && isPpV (ev x.sl v))) = false

theorem PutAt.eff {f : D → Option D} {d : Nat} (h : PutAt f x y x1 d) (hd : o.dst = some d) (hf : f y = dOp τ F y o) : ∃ E : Eff, E.d = o.dst ∧ (∀ z, (E.ob z).isSome = true → z ∈ newO o) ∧ x1 = E.on x ∧ dOp τ F y o = some (E.on y) := by
  obtain ⟨u, rfl, h2⟩ := h
  exact ⟨Eff.put d u, hd.symm, (fun z hz => by cases hz), (Eff.put_on d u x).symm, (by rw [← hf, h2, Eff.put_on])⟩

theorem dOp_eff (h : dOp τ F x o = some x1) (hst : isStore o = false) (htk : noTk F x o) (hs : ∀ v ∈ o.op.operands, Same x y v) : ∃ E : Eff, E.d = o.dst ∧ (∀ z, (E.ob z).isSome = true → z ∈ newO o) ∧ x1 = E.on x ∧ dOp τ F y o = some (E.on y) := by
  have h0 := h
  unfold dOp at h
  cases hd : o.dst with
  | none =>
    rw [hd] at h
    simp only at h
    split at h <;> try cases h
    rename_i ho
    rw [isStore, ho] at hst
    cases hst
  | some d =>
    rw [hd] at h
    simp only at h
    rw [← hd]
    have hr : ∀ op, o.op = op → (∀ y, dOp τ F y o = dRead τ F y d op) → dRead τ F x d op = some x1 → ∃ E : Eff, E.d = o.dst ∧ (∀ z, (E.ob z).isSome = true → z ∈ newO o) ∧ x1 = E.on x ∧ dOp τ F y o = some (E.on y) := fun op e1 e2 e3 =>
      PutAt.eff (read_at (y := y) (by rw [← e1]; exact hs) e3) hd (e2 y).symm
    cases ho : o.op with
    | assign v => rw [ho] at h hs; exact (move_at (hs v (by simp [Op.operands])) h).eff hd (by simp only [dOp, hd, ho])
    | move v =>
      rw [ho] at h hs
      simp only at h
      cases hm : mem d F.al with
      | true => rw [hm] at h; exact (alias_at (hs v (by simp [Op.operands])) h).eff hd (by simp only [dOp, hd, ho, hm, cond_true])
      | false => rw [hm] at h; exact (move_at (hs v (by simp [Op.operands])) h).eff hd (by simp only [dOp, hd, ho, hm, cond_false])
    | extract v k => rw [ho] at h hs; exact (extract_at (hs v (by simp [Op.operands])) h).eff hd (by simp only [dOp, hd, ho])
    | pick c a b => rw [ho] at h hs; exact (pick_at (hs c (by simp [Op.operands])) (hs a (by simp [Op.operands])) (hs b (by simp [Op.operands])) h).eff hd (by simp only [dOp, hd, ho])
    | fieldAddr s v f => rw [ho] at h hs; exact (field_at (hs v (by simp [Op.operands])) h).eff hd (by simp only [dOp, hd, ho])
    | nilCheck v => rw [ho] at h hs; exact (nil_at (hs v (by simp [Op.operands])) h).eff hd (by simp only [dOp, hd, ho])
    | makeFunc fn first caps =>
      rw [ho] at h hs
      cases fn with
      | func f =>
        simp only at h
        obtain ⟨hf, h⟩ := cond_some h
        exact (func_at (fun v hv => hs v (by simp [Op.operands]; exact .inr (by simpa using hv))) h).eff hd (by simp only [dOp, hd, ho, hf, cond_true])
      | _ => simp only [dRead, readV] at h; cases h
    | indexAddr t v i =>
      rw [ho] at h hs
      have hsv := hs v (by simp [Op.operands])
      simp only at h
      cases hm : (isPpV (F.shOf d) && isSlV (ev x.sl v)) with
      | true =>
        have hm2 : (isPpV (F.shOf d) && isSlV (ev y.sl v)) = true := by rw [hsv.1]; exact hm
        rw [hm] at h
        exact (indexS_at hsv (hs i (by simp [Op.operands])) h).eff hd (by simp only [dOp, hd, ho, hm2, cond_true])
      | false =>
        have hm2 : (isPpV (F.shOf d) && isSlV (ev y.sl v)) = false := by rw [hsv.1]; exact hm
        rw [hm] at h
        exact (index_at hsv (hs i (by simp [Op.operands])) h).eff hd (by simp only [dOp, hd, ho, hm2, cond_false])
    | load t v =>
      rw [ho] at h hs
      have hm := htk d t v hd ho
      have hsv := hs v (by simp [Op.operands])
      have hm2 : (mem d F.tk && (!(mem d F.al) && isPpV (ev y.sl v))) = false := by rw [hsv.1]; exact hm
      simp only [hm, cond_false] at h
      exact (load_at hsv h).eff hd (by simp only [dOp, hd, ho, hm2, cond_false])
    | alloc t =>
      rw [ho] at h
      simp only at h
      unfold dAlloc at h
      split at h <;> try cases h
      rename_i i e
      obtain ⟨hc, h⟩ := cond_some h
      cases h
      refine ⟨Eff.new d (.one (.ptr d 0)) i.zero, hd.symm, fun z hz => ?_, (Eff.new_on _ _ _ x).symm, ?_⟩
      · simp only [newO, hd, ho, List.mem_singleton]
        simp only [Eff.new] at hz
        by_cases e : z = d
        · exact e
        · rw [if_neg e] at hz; cases hz
      · simp only [dOp, hd, ho, dAlloc, e, hc, cond_true, Eff.new_on]
    | box t v =>
      rw [ho] at h hs
      simp only at h
      unfold dBox at h
      split at h <;> try cases h
      rename_i t'
      split at h <;> try cases h
      rename_i xs e
      obtain ⟨hc, h⟩ := cond_some h
      cases h
      have h1 : y.sl t' = x.sl t' := (hs (.tmp t') (by simp [Op.operands])).1
      refine ⟨Eff.new d (.one (.ptr d 0)) xs, hd.symm, fun z hz => ?_, (Eff.new_on _ _ _ x).symm, ?_⟩
      · simp only [newO, hd, ho, List.mem_singleton]
        simp only [Eff.new] at hz
        by_cases e : z = d
        · exact e
        · rw [if_neg e] at hz; cases hz
      · simp only [dOp, hd, ho, dBox, h1, e, hc, cond_true, Eff.new_on]
    | buildSlice t n parts => rw [ho] at h hs; exact (lit_at (fun v hv => hs v (by simpa [Op.operands] using hv)) h).eff hd (by simp only [dOp, hd, ho])
    | makeSlice t v z => rw [ho] at h hs; exact (make_at (hs v (by simp [Op.operands])) (hs z (by simp [Op.operands])) h).eff hd (by simp only [dOp, hd, ho])
    | build t parts => rw [ho] at h hs; exact (build_at (fun v hv => hs v (by simpa [Op.operands] using hv)) h).eff hd (by simp only [dOp, hd, ho])
    | call c =>
      rw [ho] at h hs
      simp only at h
      split at h
      · rename_i v z t u e1 e2 e3
        have hm : ∀ w, w ∈ c.args.toList → Same x y w := fun w hw => hs w (by simp only [Op.operands, Call.operands]; simp; exact .inr (by simpa using hw))
        exact (append_at (hm v (by rw [e2]; simp)) (hm z (by rw [e2]; simp)) h).eff hd (by simp only [dOp, hd, ho, e1, e2, e3])
      · rename_i hne
        refine hr (.call c) ho (fun y => ?_) h
        simp only [dOp, hd, ho]
    | store t v z => rw [ho] at h; simp only [dRead, readV] at h; cases h
    | binOp a b c d' e => rw [ho] at h; exact hr _ ho (fun y => by simp only [dOp, hd, ho]) h
    | unOp a b c => rw [ho] at h; exact hr _ ho (fun y => by simp only [dOp, hd, ho]) h
    | convert a b c => rw [ho] at h; exact hr _ ho (fun y => by simp only [dOp, hd, ho]) h
    | index a b c => rw [ho] at h; exact hr _ ho (fun y => by simp only [dOp, hd, ho]) h
    | slice a b c d' e => rw [ho] at h; exact hr _ ho (fun y => by simp only [dOp, hd, ho]) h
    | _ => rw [ho] at h; simp only [dRead, readV] at h; cases h
end
end Go.Own

/- A region's steps on data; two of them that do not touch each other may come the other way round. -/
namespace Go.Own
open Go.RowKit

/-- A step, with the contract of what it calls. -/
def SD (P : Program) (τ : TypeId → Option TI) (Sgs : FuncId → List Sg) (F : FA) (ds : List (Option Nat)) (o : Oper) (x x1 : D) : Prop :=
 (guardD ds x o.guard = some false ∧ x1 = skipD x o.dst) ∨
 (guardD ds x o.guard = some true ∧ dOp τ F x o = some x1) ∨
 (guardD ds x o.guard = some true ∧ ∃ c v f caps ob ob' r nw, o.op = .call c ∧ c.callee = .value v ∧ ioArg F c = false ∧ ev x.sl v = .one (.fn f caps) ∧ c.args.toList.all (fun v => thereV (ev x.sl v)) = true ∧ ob.map some = (osOf F c v).map x.ob ∧
  (∀ sg ∈ Sgs f, sg.np = (inV x c caps (osOf F c v)).length → sg.no = ob.length → TC P f sg (inV x c caps (osOf F c v)) ob r none ob' nw) ∧
  callShapes F (x.call o.dst (ndOf F o.dst) (osOf F c v) (DR r none ob' nw)) o.dst (ndOf F o.dst) (osOf F c v) = true ∧ x1 = x.call o.dst (ndOf F o.dst) (osOf F c v) (DR r none ob' nw)) ∨
 (guardD ds x o.guard = some true ∧ ∃ c v f r t xs l p x0 es es', o.op = .call c ∧ c.callee = .value v ∧ ioArg F c = true ∧ ev x.sl v = .one (.fn f []) ∧ c.args.toList.all (fun v => thereV (ev x.sl v)) = true ∧ c.args.toList = .tmp t :: xs ∧ x.sl t = .one (.al l p) ∧ x.at l = some x0 ∧ nav x0 p = some (.sl es) ∧
  (∀ sg ∈ Sgs f, sg.np = (inV x c [] []).length → sg.no = 0 → TC P f sg (inV x c [] []) [] r (some (.sl es')) [] none) ∧ callShapes F (x.call o.dst none [] (DR r (some (.sl es')) [] none)) o.dst none [] = true ∧ x1 = (x.call o.dst none [] (DR r (some (.sl es')) [] none)).upd l (setAt x0 p (.sl es')))
/-- Does it change what lies in a place? -/
def ptrSt (F : FA) (o : Oper) : Bool := match o.op with
 | .store _ v _ => (match shOp F v with | .one (.ptr _ _) => true | _ => false)
 | _ => false
def isSt (F : FA) (o : Oper) : Bool := (isStore o && !(ptrSt F o)) || (isTk F o || (match calleeV o with | some (c, _) => ioArg F c | none => false))

def gslot (ds : List (Option Nat)) : Option (Nat × Bool) → Option Nat
 | none => none
 | some (j, _) => match ds[j]? with
  | some (some t) => some t
  | _ => none
/-- The object that is stored into. -/
def stO (F : FA) (o : Oper) : List Nat := match o.op with
 | .store _ v _ => (match shOp F v with | .one (.ptr ob _) => [ob] | _ => [])
 | _ => []
def wO (F : FA) (o : Oper) : List Nat := match calleeV o with
 | some (c, v) => names (osOf F c v) (ndOf F o.dst)
 | none => newO o ++ stO F o
def rO (F : FA) (o : Oper) : List Nat := match calleeV o with
 | some (c, v) => osOf F c v
 | none => []

def fitV (F : FA) (x : D) : Operand → Prop
 | .tmp t => x.sl t = .tup [] ∨ fits (x.sl t) (F.shOf t) = true
 | _ => True
def FitO (F : FA) (x : D) (o : Oper) : Prop := ∀ v ∈ o.op.operands, fitV F x v

def clashL (d : Option Nat) (wo : List Nat) : Loc → Bool
 | .s i _ _ => decide (d = some i)
 | .oc o _ => mem o wo
 | _ => false
def clash (F : FA) (d : Option Nat) (wo : List Nat) (v : Operand) : Bool :=
 (match v with | .tmp t => decide (d = some t) | _ => false) ||
 (match shOp F v with
  | .one (.ptr ob _) => mem ob wo
  | .one (.pp l _ _ _) => clashL d wo l
  | .one (.al l _) => clashL d wo l
  | _ => false)
/-- The first may change what the other looks at. -/
def touches (F : FA) (ds : List (Option Nat)) (a b : Oper) : Bool :=
 b.op.operands.toList.any (clash F a.dst (wO F a)) || (match gslot ds b.guard with | some t => decide (a.dst = some t) | none => false) || (rO F b).any (fun z => mem z (wO F a))
def indep (F : FA) (ds : List (Option Nat)) (a b : Oper) : Bool :=
 !(isSt F a) && !(isSt F b) && (match a.dst with | some d => !(decide (b.dst = some d)) | none => true) && !(touches F ds a b) && !(touches F ds b a) && (wO F a).all (fun z => !(mem z (wO F b)))

theorem memT {z : Nat} : ∀ {l : List Nat}, z ∈ l → mem z l = true
 | y :: r, h => by
  simp only [mem, Bool.or_eq_true]
  cases h with
  | head => exact .inl (Nat.beq_refl _)
  | tail _ h => exact .inr (memT h)

section
variable {P : Program} {τ : TypeId → Option TI} {Sgs : FuncId → List Sg} {F : FA} {ds : List (Option Nat)} {x y x1 x2 : D} {o : Oper}

theorem at_on {E : Eff} {wo : List Nat} (hE : ∀ z, (E.ob z).isSome = true → z ∈ wo) {l : Loc} (h : clashL E.d wo l = false) : (E.on x).at l = x.at l := by
 cases l with
 | s i k j =>
  simp only [clashL, decide_eq_false_iff_not] at h
  simp only [D.at, atL, Eff.on, if_neg h]
 | oc ob j =>
  simp only [clashL] at h
  have : E.ob ob = none := by
   cases he : E.ob ob with
   | none => rfl
   | some c => rw [memT (hE ob (by rw [he]; rfl))] at h; cases h
  simp only [D.at, atL, Eff.on, this]
 | _ => rfl

theorem same_on {E : Eff} {wo : List Nat} (hE : ∀ z, (E.ob z).isSome = true → z ∈ wo) {v : Operand} (hf : fitV F x v) (h : clash F E.d wo v = false) : Same x (E.on x) v := by
 have hob : ∀ ob, mem ob wo = false → (E.on x).ob ob = x.ob ob := fun ob hm => by
  have : E.ob ob = none := by
   cases he : E.ob ob with
   | none => rfl
   | some c => rw [memT (hE ob (by rw [he]; rfl))] at hm; cases hm
  simp only [Eff.on, this]
 simp only [clash, Bool.or_eq_false_iff] at h
 cases v with
 | tmp t =>
  obtain ⟨h1, h2⟩ := h
  have h1 : E.d ≠ some t := by simpa using h1
  have e0 : (E.on x).sl t = x.sl t := by simp only [Eff.on, if_neg h1]
  refine ⟨e0, ?_⟩
  have h2 : (match F.shOf t with | .one (.ptr ob _) => mem ob wo | .one (.pp l _ _ _) => clashL E.d wo l | .one (.al l _) => clashL E.d wo l | _ => false) = false := h2
  have hf : x.sl t = .tup [] ∨ fits (x.sl t) (F.shOf t) = true := hf
  show match x.sl t with | .one (.ptr ob _) => _ | .one (.pp l _ _ _) => _ | .one (.al l _) => _ | _ => True
  rcases hf with e | hf
  ·rw [e]; trivial
  ·split
   ·rename_i ob p e
    rw [e] at hf
    cases hs : F.shOf t with
    | tup ws => rw [hs] at hf; simp [Own.fits] at hf
    | one w =>
     rw [hs] at hf h2
     cases w <;> simp [Own.fits, fitsW] at hf
     obtain ⟨rfl, _⟩ := hf
     exact hob _ h2
   ·rename_i l p i j e
    rw [e] at hf
    cases hs : F.shOf t with
    | tup ws => rw [hs] at hf; simp [Own.fits] at hf
    | one w =>
     rw [hs] at hf h2
     cases w <;> simp [Own.fits, fitsW] at hf
     obtain ⟨⟨rfl, _⟩, _⟩ := hf
     exact at_on hE h2
   ·rename_i l p e
    rw [e] at hf
    cases hs : F.shOf t with
    | tup ws => rw [hs] at hf; simp [Own.fits] at hf
    | one w =>
     rw [hs] at hf h2
     cases w <;> simp [Own.fits, fitsW] at hf
     obtain ⟨rfl, _⟩ := hf
     exact at_on hE h2
   ·trivial
 | const u =>
  refine ⟨rfl, ?_⟩
  obtain ⟨_, h2⟩ := h
  show match constV u with | .one (.ptr ob _) => _ | .one (.pp l _ _ _) => _ | .one (.al l _) => _ | _ => True
  have h2 : (match constV u with | .one (.ptr ob _) => mem ob wo | .one (.pp l _ _ _) => clashL E.d wo l | .one (.al l _) => clashL E.d wo l | _ => false) = false := h2
  split
  ·rename_i e; rw [e] at h2; exact hob _ h2
  ·rename_i e; rw [e] at h2; exact at_on hE h2
  ·rename_i e; rw [e] at h2; exact at_on hE h2
  ·trivial
 | func f => exact ⟨rfl, trivial⟩
 | global i => exact ⟨rfl, trivial⟩

theorem Same.refl (x : D) (v : Operand) : Same x x v := ⟨rfl, by split <;> trivial⟩
theorem Same.symm {v : Operand} (h : Same x y v) : Same y x v := by
 refine ⟨h.1.symm, ?_⟩
 rw [h.1]
 have h2 := h.2
 split <;> rename_i e <;> first | trivial | (rw [e] at h2; exact h2.symm)

theorem Same.fit {v : Operand} (h : Same x y v) (hf : fitV F x v) : fitV F y v := by
 cases v with
 | tmp t =>
  have e : y.sl t = x.sl t := h.1
  show y.sl t = .tup [] ∨ fits (y.sl t) (F.shOf t) = true
  rw [e]; exact hf
 | _ => trivial

/-- All that it looks at is the same. -/
structure SameO (F : FA) (ds : List (Option Nat)) (x y : D) (o : Oper) : Prop where
 vs : ∀ v ∈ o.op.operands, Same x y v
 g : ∀ t, gslot ds o.guard = some t → y.sl t = x.sl t
 os : ∀ z ∈ rO F o, y.ob z = x.ob z

theorem SameO.refl (x : D) (o : Oper) : SameO F ds x x o := ⟨fun v _ => .refl x v, fun _ _ => rfl, fun _ _ => rfl⟩
theorem SameO.symm (h : SameO F ds x y o) : SameO F ds y x o := ⟨fun v hv => (h.vs v hv).symm, fun t ht => (h.g t ht).symm, fun z hz => (h.os z hz).symm⟩
theorem SameO.fit (h : SameO F ds x y o) (hf : FitO F x o) : FitO F y o := fun v hv => (h.vs v hv).fit (hf v hv)

theorem SameO.guard (h : SameO F ds x y o) : guardD ds y o.guard = guardD ds x o.guard := by
 have hg := h.g
 cases hq : o.guard with
 | none => rfl
 | some p =>
  obtain ⟨j, w⟩ := p
  rw [hq] at hg
  simp only [gslot] at hg
  simp only [guardD]
  split
  ·rename_i t e
   rw [e] at hg
   simp only at hg
   rw [hg t rfl]
  ·rfl

theorem sameO_on {a : Oper} {E : Eff} (hd : E.d = a.dst) (hE : ∀ z, (E.ob z).isSome = true → z ∈ wO F a) (hf : FitO F x o) (h : touches F ds a o = false) : SameO F ds x (E.on x) o := by
 simp only [touches, Bool.or_eq_false_iff] at h
 obtain ⟨⟨h1, h2⟩, h3⟩ := h
 refine ⟨fun v hv => same_on hE (hf v hv) ?_, fun t ht => ?_, fun z hz => ?_⟩
 ·have := List.any_eq_false.1 h1 v (by simpa using hv)
  rw [hd]; simpa using this
 ·rw [ht] at h2
  simp only [decide_eq_false_iff_not] at h2
  simp only [Eff.on, hd, if_neg h2]
 ·have := List.any_eq_false.1 h3 z hz
  have hn : E.ob z = none := by
   cases he : E.ob z with
   | none => rfl
   | some c => exact absurd (memT (hE z (by rw [he]; rfl))) this
  simp only [Eff.on, hn]

theorem calleeV_of {c : Call} {v : Operand} (ho : o.op = .call c) (hc : c.callee = .value v) : calleeV o = some (c, v) := by
 unfold calleeV; rw [ho]; simp only [hc]
theorem dOp_callee (h : dOp τ F x o = some x1) : calleeV o = none := by
 unfold calleeV
 split
 ·rename_i c ho
  split
  ·rename_i v hv
   exfalso
   unfold dOp at h
   cases hd : o.dst with
   | none => rw [hd, ho] at h; simp at h
   | some d =>
    rw [hd, ho] at h
    simp only [hv] at h
    simp only [dRead, readV, hv] at h
    cases h
  ·rfl
 ·rfl

theorem mem_names {os : List Nat} {nd : Option Nat} {z : Nat} {y : D} {d : Option Nat} (h : ((Eff.call d nd os y).ob z).isSome = true) : z ∈ names os nd := by
 simp only [Eff.call] at h
 cases hi : innN os nd z with
 | none => rw [hi] at h; cases h
 | some oc => exact innN_names.1 (by rw [hi]; rfl)

theorem callShapes_on {d nd : Option Nat} {os : List Nat} {r : D} : callShapes F (y.call d nd os r) d nd os = callShapes F (x.call d nd os r) d nd os := by
 simp only [callShapes]
 congr 1
 ·cases d with
  | none => rfl
  | some d => simp [D.call]
 ·rw [Bool.eq_iff_iff, List.all_eq_true, List.all_eq_true]
  have : ∀ z ∈ names os nd, (y.call d nd os r).ob z = (x.call d nd os r).ob z := fun z hz => by
   simp only [D.call]
   cases hi : innN os nd z with
   | none => have := innN_names.2 hz; rw [hi] at this; cases this
   | some oc => rfl
  exact ⟨fun h z hz => by rw [← this z hz]; exact h z hz, fun h z hz => by rw [this z hz]; exact h z hz⟩

theorem store_eff (h : dOp τ F x o = some x1) (hst : ptrSt F o = true) (hfit : FitO F x o) (hs : ∀ v ∈ o.op.operands, Same x y v) : ∃ E : Eff, E.d = o.dst ∧ (∀ z, (E.ob z).isSome = true → z ∈ stO F o) ∧ x1 = E.on x ∧ dOp τ F y o = some (E.on y) := by
 unfold ptrSt at hst
 split at hst <;> try cases hst
 rename_i t v w ho
 split at hst <;> try cases hst
 rename_i ob p hsh
 have h0 := h
 unfold dOp at h
 cases hd : o.dst with
 | some d => rw [hd] at h; simp only at h; rw [ho] at h; simp only [dRead, readV] at h; cases h
 | none =>
  rw [hd, ho] at h
  simp only at h
  split at h <;> try cases h
  ·rename_i i ob' p' xs hi hv hy
   have hv' : ev x.sl v = .one (.ptr ob' p') := hv
   have hob : ob' = ob ∧ p' = p := by
    cases v with
    | tmp tt =>
     have hf := hfit (.tmp tt) (by rw [ho]; simp [Op.operands])
     have hv2 : x.sl tt = .one (.ptr ob' p') := hv'
     have hf : x.sl tt = .tup [] ∨ fits (x.sl tt) (F.shOf tt) = true := hf
     have hsh : F.shOf tt = .one (.ptr ob p) := hsh
     rw [hv2, hsh] at hf
     rcases hf with hf | hf
     ·cases hf
     ·simp only [fits, fitsW, Bool.and_eq_true] at hf
      exact ⟨Nat.eq_of_beq_eq_true hf.1, Nat.eq_of_beq_eq_true hf.2⟩
    | const c =>
     have hv2 : constV c = .one (.ptr ob' p') := hv'
     have hsh2 : constV c = .one (.ptr ob p) := hsh
     rw [hv2] at hsh2; cases hsh2; exact ⟨rfl, rfl⟩
    | func f => cases hv'
    | global g => cases hv'
   obtain ⟨rfl, rfl⟩ := hob
   have h1 := hs v (by rw [ho]; simp [Op.operands])
   have h2 := hs w (by rw [ho]; simp [Op.operands])
   have e1 : ev y.sl v = .one (.ptr ob' p') := h1.1.trans hv'
   have e2 : cellsOfV (ev y.sl w) = some xs := by rw [h2.1]; exact hy
   have e3 : y.ob ob' = x.ob ob' := by
    have := h1.2
    rw [hv'] at this
    exact this
   unfold dStoreO at h
   split at h <;> try cases h
   rename_i cells hcl
   obtain ⟨hc, h⟩ := cond_some h
   cases h
   have hon : ∀ z : D, (Eff.on ⟨none, .tup [], fun o' => if o' = ob' then some (some (cells.take p' ++ xs ++ cells.drop (p' + xs.length))) else none⟩ z) = z.setO ob' (cells.take p' ++ xs ++ cells.drop (p' + xs.length)) := fun z => D.ext (fun i => by simp [Eff.on, D.setO]) (fun i => by
    simp only [Eff.on, D.setO]
    by_cases e : i = ob'
    ·rw [if_pos e, if_pos e]
    ·rw [if_neg e, if_neg e])
   refine ⟨⟨none, .tup [], fun o' => if o' = ob' then some (some (cells.take p' ++ xs ++ cells.drop (p' + xs.length))) else none⟩, rfl, fun z hz => ?_, (hon x).symm, ?_⟩
   ·simp only at hz
    by_cases e : z = ob'
    ·unfold stO; rw [ho]; simp only [hsh]; simp [e]
    ·rw [if_neg e] at hz; cases hz
   ·rw [hon y]
    unfold dOp
    rw [hd, ho]
    simp only [hi, e1, e2, dStoreO, e3, hcl, hc, cond_true]
  ·rename_i i l pp n j xs hi hv hy
   exfalso
   have hv' : ev x.sl v = .one (.pp l pp n j) := hv
   cases v with
   | tmp tt =>
    have hf := hfit (.tmp tt) (by rw [ho]; simp [Op.operands])
    have hv2 : x.sl tt = .one (.pp l pp n j) := hv'
    have hf : x.sl tt = .tup [] ∨ fits (x.sl tt) (F.shOf tt) = true := hf
    have hsh : F.shOf tt = .one (.ptr ob p) := hsh
    rw [hv2, hsh] at hf
    rcases hf with hf | hf
    ·cases hf
    ·simp [fits, fitsW] at hf
   | const c =>
    have hv2 : constV c = .one (.pp l pp n j) := hv'
    have hsh2 : constV c = .one (.ptr ob p) := hsh
    rw [hv2] at hsh2; cases hsh2
   | func f => cases hv'
   | global g => cases hv'
theorem SD.eff (h : SD P τ Sgs F ds o x x1) (hfit : FitO F x o) (hst : isSt F o = false) (hs : SameO F ds x y o) : ∃ E : Eff, E.d = o.dst ∧ (∀ z, (E.ob z).isSome = true → z ∈ wO F o) ∧ x1 = E.on x ∧ SD P τ Sgs F ds o y (E.on y) := by
 rcases h with ⟨hg, rfl⟩ | ⟨hg, h⟩ | ⟨hg, c, v, f, caps, ob, ob', r, nw, h1, h2, h0, h3, h4, h5, h6, h7, rfl⟩ | ⟨hg, c, v, f, r, t, xs, l, p, x0, es, es', h1, h2, h3, _⟩
 ·exact ⟨Eff.skip o.dst, rfl, (fun z hz => by cases hz), (Eff.skip_on _ x).symm, .inl ⟨by rw [hs.guard, hg], Eff.skip_on _ y⟩⟩
 ·cases hs2 : isStore o with
  | false =>
   obtain ⟨E, e1, e2, e3, e4⟩ := dOp_eff h hs2 (fun d t v hd ho => by
    simp only [isSt, Bool.or_eq_false_iff] at hst
    have htk := hst.2.1
    unfold isTk at htk
    rw [hd, ho] at htk
    have htk : (mem d F.tk && (!(mem d F.al) && isPp F v)) = false := htk
    cases hp : isPpV (ev x.sl v) with
    | false => rw [Bool.and_false, Bool.and_false]
    | true =>
     obtain ⟨l, p, n, j, e⟩ := isPpV_of hp
     have : isPp F v = true := by
      cases v with
      | tmp tt =>
       have hf : x.sl tt = .tup [] ∨ fits (x.sl tt) (F.shOf tt) = true := hfit (.tmp tt) (by rw [ho]; simp [Op.operands])
       have e : x.sl tt = .one (.pp l p n j) := e
       rw [e] at hf
       rcases hf with hf | hf
       ·cases hf
       ·unfold isPp
        show (match F.shOf tt with | .one (.pp _ _ _ _) => true | _ => false) = true
        cases hs3 : F.shOf tt with
        | tup ws => rw [hs3] at hf; simp [fits] at hf
        | one w => rw [hs3] at hf; cases w <;> simp [fits, fitsW] at hf; rfl
      | const c =>
       have e : constV c = .one (.pp l p n j) := e
       unfold constV at e; (repeat' split at e) <;> cases e
      | func f => cases e
      | global g => cases e
     rw [this] at htk
     exact htk) hs.vs
   exact ⟨E, e1, (fun z hz => by simp only [wO, dOp_callee h]; exact List.mem_append_left _ (e2 z hz)), e3, .inr (.inl ⟨by rw [hs.guard, hg], e4⟩)⟩
  | true =>
   have hp : ptrSt F o = true := by
    simp only [isSt, Bool.or_eq_false_iff, hs2, Bool.true_and, Bool.not_eq_false'] at hst
    exact hst.1
   obtain ⟨E, e1, e2, e3, e4⟩ := store_eff h hp hfit hs.vs
   exact ⟨E, e1, (fun z hz => by simp only [wO, dOp_callee h]; exact List.mem_append_right _ (e2 z hz)), e3, .inr (.inl ⟨by rw [hs.guard, hg], e4⟩)⟩
 ·have hc := calleeV_of h1 h2
  have hv : ∀ w, (w = v ∨ w ∈ c.args.toList) → Same x y w := fun w hw => hs.vs w (by
   rw [h1]
   simp only [Op.operands, Call.operands, h2]
   simp
   rcases hw with rfl | hw
   ·exact .inl rfl
   ·exact .inr (by simpa using hw))
  have e1 : inV y c caps (osOf F c v) = inV x c caps (osOf F c v) := by
   simp only [inV]
   congr 1
   exact List.map_congr_left fun w hw => by rw [(hv w (.inr hw)).evD]
  have e2 : (osOf F c v).map y.ob = (osOf F c v).map x.ob := List.map_congr_left fun z hz => hs.os z (by simp only [rO, hc]; exact hz)
  refine ⟨Eff.call o.dst (ndOf F o.dst) (osOf F c v) (DR r none ob' nw), rfl, (fun z hz => by simp only [wO, hc]; exact mem_names hz), (Eff.call_on _ _ _ _ x).symm, .inr (.inr (.inl ⟨by rw [hs.guard, hg], c, v, f, caps, ob, ob', r, nw, h1, h2, h0, by rw [(hv v (.inl rfl)).1, h3], ?_, by rw [e2, h5], ?_, ?_, Eff.call_on _ _ _ _ y⟩))⟩
  ·rw [List.all_eq_true] at h4 ⊢
   exact fun w hw => by rw [(hv w (.inr hw)).1]; exact h4 w hw
  ·rw [e1]; exact h6
  ·rw [callShapes_on (x := x)]; exact h7
 ·simp only [isSt, calleeV_of h1 h2, h3, Bool.or_true] at hst
  cases hst

theorem Eff.comm {E E' : Eff} {z : D} (hd : ∀ d, E.d = some d → E'.d ≠ some d) (ho : ∀ o, (E.ob o).isSome = true → E'.ob o = none) : E.on (E'.on z) = E'.on (E.on z) := by
 refine D.ext (fun i => ?_) (fun o => ?_)
 ·simp only [Eff.on]
  by_cases e : E.d = some i
  ·rw [if_pos e, if_neg (hd i e), if_pos e]
  ·rw [if_neg e, if_neg e]
 ·simp only [Eff.on]
  cases h : E.ob o with
  | none => rfl
  | some c => rw [ho o (by rw [h]; rfl)]

/-- The other way round. -/
theorem SD.swap {a b : Oper} (h1 : SD P τ Sgs F ds a x x1) (h2 : SD P τ Sgs F ds b x1 x2) (ha : FitO F x a) (hb : FitO F x1 b) (hi : indep F ds a b = true) : FitO F x b ∧ ∃ y, SD P τ Sgs F ds b x y ∧ FitO F y a ∧ SD P τ Sgs F ds a y x2 := by
 simp only [indep, Bool.and_eq_true, Bool.not_eq_true'] at hi
 obtain ⟨⟨⟨⟨⟨sa, sb⟩, hd⟩, hab⟩, hba⟩, hw⟩ := hi
 obtain ⟨A, a1, a2, a3, _⟩ := h1.eff ha sa (SameO.refl x a)
 -- b's operands, ahead of a
 have hfb : FitO F x b := fun v hv => by
  have hc : clash F a.dst (wO F a) v = false := by
   simp only [touches, Bool.or_eq_false_iff] at hab
   have := List.any_eq_false.1 hab.1.1 v (by simpa using hv)
   simpa using this
  have := hb v hv
  cases v with
  | tmp t =>
   simp only [clash, Bool.or_eq_false_iff, decide_eq_false_iff_not] at hc
   have e : x1.sl t = x.sl t := by rw [a3]; simp only [Eff.on, a1, if_neg hc.1]
   have this : x1.sl t = .tup [] ∨ fits (x1.sl t) (F.shOf t) = true := this
   rw [e] at this; exact this
  | _ => trivial
 have hsb : SameO F ds x x1 b := by rw [a3]; exact sameO_on a1 a2 hfb hab
 obtain ⟨B, b1, b2, b3, b4⟩ := h2.eff hb sb hsb.symm
 have hsa : SameO F ds x (B.on x) a := sameO_on b1 b2 ha hba
 obtain ⟨A', c1, c2, c3, c4⟩ := h1.eff ha sa hsa
 refine ⟨hfb, B.on x, b4, hsa.fit ha, ?_⟩
 rw [b3, c3, ← Eff.comm (E := A') (E' := B)]
 ·exact c4
 ·intro d e1 e2
  rw [c1] at e1
  rw [b1] at e2
  rw [e1] at hd
  simp [e2] at hd
 ·intro z hz
  cases hB : B.ob z with
  | none => rfl
  | some c =>
   have m1 := c2 z hz
   have m2 := b2 z (by rw [hB]; rfl)
   have := List.all_eq_true.1 hw z m1
   rw [memT m2] at this
   cases this

/-- A run in the order of such numbers. -/
def RunF (P : Program) (τ : TypeId → Option TI) (Sgs : FuncId → List Sg) (F : FA) (ds : List (Option Nat)) (ops : Array Oper) : List Nat → D → D → Prop
 | [], x, x' => x = x'
 | i :: r, x, x' => ∃ o x1, ops[i]? = some o ∧ FitO F x o ∧ SD P τ Sgs F ds o x x1 ∧ RunF P τ Sgs F ds ops r x1 x'

/-- What may come first is taken first. -/
theorem RunF.front {ops : Array Oper} {i : Nat} (ho : ops[i]? = some o) {L2 : List Nat} {x' : D} : ∀ {L1 : List Nat} {x : D}, RunF P τ Sgs F ds ops (L1 ++ i :: L2) x x' → (∀ j ∈ L1, ∀ a, ops[j]? = some a → indep F ds a o = true) →
  FitO F x o ∧ ∃ x1, SD P τ Sgs F ds o x x1 ∧ RunF P τ Sgs F ds ops (L1 ++ L2) x1 x'
 | [], x, h, _ => by
  obtain ⟨o', x1, h1, h2, h3, h4⟩ := h
  rw [ho] at h1; cases h1
  exact ⟨h2, x1, h3, h4⟩
 | j :: r, x, h, hi => by
  obtain ⟨a, x1, h1, h2, h3, h4⟩ := h
  obtain ⟨k1, x2, k2, k3⟩ := RunF.front ho h4 (fun j hj => hi j (List.mem_cons_of_mem _ hj))
  obtain ⟨q1, y, q2, q3, q4⟩ := h3.swap k2 h2 k1 (hi j List.mem_cons_self a h1)
  exact ⟨q1, y, q2, a, x2, h1, q3, q4, k3⟩
end
end Go.Own

/- What is checked of a region whose order is drawn. -/
namespace Go.Own
open Go.RowKit

abbrev Lvl := List (Nat × B)
def getL (m : Nat) : Lvl → Option B
 | [] => none
 | (m', b) :: r => bif Nat.beq m m' then some b else getL m r
/-- One more state. -/
def addL (F : FA) (m : Nat) (b : B) (mt : B → B → B) : Lvl → Option Lvl
 | [] => some [(m, b)]
 | (m', b0) :: r => bif Nat.beq m m' then (bif leB (mt b0 b) b0 && leB (mt b0 b) b then some ((m', (mt b0 b).nrm F) :: r) else none)
  else (match addL F m b mt r with | some r' => some ((m', b0) :: r') | none => none)
def readyC (m : Nat) (o : Oper) : Bool := o.after.toList.all fun e => !(Region.binds .any e) || m.testBit e.on

section
variable (τ : TypeId → Option TI) (Sgs : FuncId → List Sg) (F : FA) (ds : List (Option Nat)) (mt : B → B → B)
def expand1 (m : Nat) (b : B) : Nat → List Oper → Lvl → Option Lvl
 | _, [], acc => some acc
 | i, o :: r, acc => bif m.testBit i || !(readyC m o) then expand1 m b (i + 1) r acc
  else (match stepC τ Sgs F ds b o with
   | some b1 => (match addL F (m ||| 2 ^ i) b1 mt acc with | some acc' => expand1 m b (i + 1) r acc' | none => none)
   | none => none)
def expand (os : List Oper) : Lvl → Lvl → Option Lvl
 | [], acc => some acc
 | (m, b) :: r, acc => match expand1 τ Sgs F ds mt m b 0 os acc with | some acc' => expand os r acc' | none => none
def levels (os : List Oper) : Nat → Lvl → Option Lvl
 | 0, L => some L
 | n + 1, L => match expand τ Sgs F ds mt os L [] with | some L' => levels os n L' | none => none
/-- In the order of the text, all operands told. -/
def opsK : B → List Oper → Option B
 | b, [] => some b
 | b, o :: r => bif o.op.operands.toList.all (knows b) then (match stepC τ Sgs F ds b o with | some b1 => opsK b1 r | none => none) else none
end

def orderOk (F : FA) (ds : List (Option Nat)) (ops : Array Oper) : Bool :=
 (List.range ops.size).all (fun j => match ops[j]? with | some o => o.after.all (fun e => !Region.binds .any e || Nat.blt e.on j) | none => true) &&
 (List.range ops.size).all (fun j => (List.range j).all fun i => match ops[i]?, ops[j]? with
  | some a, some b => ((Region.before ops).getD j 0).testBit i || indep F ds a b
  | _, _ => true)

def anyC (τ : TypeId → Option TI) (Sgs : FuncId → List Sg) (F : FA) (mt : B → B → B) (b : B) (ops : Array Oper) : Option B :=
 bif orderOk F (ops.toList.map (·.dst)) ops && (opsK τ Sgs F (ops.toList.map (·.dst)) b ops.toList).isSome then
  (match levels τ Sgs F (ops.toList.map (·.dst)) mt ops.toList ops.size [(0, b)] with | some [(_, b1)] => some b1 | _ => none) else none
end Go.Own

/- What is checked of code; regions' runs are what their data tell. -/
namespace Go.Own
open Go.RowKit

/-! ### joins -/
def meetK (a b : K) : K := if a.lo b then b else if b.lo a then a else if a.lo .V && b.lo .V then .V else .D
def meetRow : List K → List K → List K
 | p :: ps, q :: qs => meetK p q :: meetRow ps qs
 | _, _ => []
def meetRows : List (List K) → List (List K) → List (List K)
 | p :: ps, q :: qs => meetRow p q :: meetRows ps qs
 | _, _ => []
def meetS (b2 : List (Nat × List (List K))) : List (Nat × List (List K)) → List (Nat × List (List K))
 | [] => []
 | p :: r => match look p.1 b2 with | some κ => (p.1, meetRows p.2 κ) :: meetS b2 r | none => meetS b2 r
def meetO (b2 : List (Nat × List K)) : List (Nat × List K) → List (Nat × List K)
 | [] => []
 | p :: r => match look p.1 b2 with | some κ => (p.1, meetRow p.2 κ) :: meetO b2 r | none => meetO b2 r
def meetB (b1 b2 : B) : B := { sl := meetS b2.sl b1.sl, ob := meetO b2.ob b1.ob }

def ekeq : Ek → Ek → Bool
 | .n, .n => true
 | .r, .r => true
 | .e i, .e j => Nat.beq i j
 | _, _ => false
theorem ekeq_of {a b : Ek} : ekeq a b = true ↔ a = b := by
 cases a <;> cases b <;> simp [ekeq]

abbrev Outs := List (Ek × B)
def getE (e : Ek) : Outs → Option B
 | [] => none
 | (e', b) :: r => bif ekeq e e' then some b else getE e r
def dropE (e : Ek) : Outs → Outs
 | [] => []
 | (e', b) :: r => bif ekeq e e' then dropE e r else (e', b) :: dropE e r

theorem getE_drop {e e' : Ek} (h : e' ≠ e) : ∀ {o : Outs}, getE e' (dropE e o) = getE e' o
 | [] => rfl
 | (e2, b) :: r => by
  simp only [dropE]
  cases h2 : ekeq e e2 with
  | true =>
   have := ekeq_of.1 h2
   subst this
   simp only [cond_true, getE]
   rw [getE_drop h]
   cases h3 : ekeq e' e with
   | true => exact absurd (ekeq_of.1 h3) h
   | false => rfl
  | false =>
   simp only [cond_false, getE]
   rw [getE_drop h]

theorem ekeq_refl (e : Ek) : ekeq e e = true := ekeq_of.2 rfl
theorem ekeq_ne {a b : Ek} (h : a ≠ b) : ekeq a b = false := by
 cases h2 : ekeq a b with
 | true => exact absurd (ekeq_of.1 h2) h
 | false => rfl

/-- One more way out. -/
def addE (F : FA) (e : Ek) (b : B) (o : Outs) : Option Outs := match getE e o with
 | none => some ((e, b) :: o)
 | some b0 => bif leB (meetB b0 b) b0 && leB (meetB b0 b) b then some ((e, (meetB b0 b).nrm F) :: dropE e o) else none
def mergeE (F : FA) : Outs → Outs → Option Outs
 | [], o => some o
 | (e, b) :: r, o => match addE F e b o with | some o' => mergeE F r o' | none => none

/-- o' tells of every way out of o. -/
def Sub (F : FA) (o o' : Outs) : Prop := ∀ e b, getE e o = some b → ∃ b', getE e o' = some b' ∧ Cv F b b'
theorem Sub.refl (F : FA) (o : Outs) : Sub F o o := fun _ b h => ⟨b, h, Cv.refl F b⟩
theorem Sub.trans {F : FA} {a b c : Outs} (h : Sub F a b) (k : Sub F b c) : Sub F a c := fun e x hx => by
 obtain ⟨y, h1, h2⟩ := h e x hx
 obtain ⟨z, k1, k2⟩ := k e y h1
 exact ⟨z, k1, h2.trans k2⟩

theorem addE_of {F : FA} {e : Ek} {b : B} {o o' : Outs} (h : addE F e b o = some o') : Sub F o o' ∧ ∃ b', getE e o' = some b' ∧ Cv F b b' := by
 unfold addE at h
 split at h
 ·rename_i hg
  cases h
  refine ⟨fun e2 b2 h2 => ?_, b, by simp [getE, ekeq_refl], Cv.refl F b⟩
  have hne : e2 ≠ e := fun e3 => by subst e3; rw [hg] at h2; cases h2
  exact ⟨b2, by simp only [getE, ekeq_ne hne, cond_false]; exact h2, Cv.refl F b2⟩
 ·rename_i b0 hg
  obtain ⟨hc, h⟩ := cond_some h
  simp only [Bool.and_eq_true] at hc
  cases h
  refine ⟨fun e2 b2 h2 => ?_, _, by simp [getE, ekeq_refl], leB_cv hc.2⟩
  by_cases hne : e2 = e
  ·subst hne
   rw [hg] at h2; cases h2
   exact ⟨_, by simp [getE, ekeq_refl], leB_cv hc.1⟩
  ·exact ⟨b2, by simp only [getE, ekeq_ne hne, cond_false]; rw [getE_drop hne]; exact h2, Cv.refl F b2⟩

theorem mergeE_of {F : FA} : ∀ {l o o' : Outs}, mergeE F l o = some o' → Sub F o o' ∧ Sub F l o'
 | [], o, o', h => by cases h; exact ⟨Sub.refl F o, fun e b h => by cases h⟩
 | (e, b) :: r, o, o', h => by
  unfold mergeE at h
  split at h <;> try cases h
  rename_i o1 h1
  obtain ⟨a1, b', a2, a3⟩ := addE_of h1
  obtain ⟨m1, m2⟩ := mergeE_of h
  refine ⟨a1.trans m1, fun e2 b2 h2 => ?_⟩
  simp only [getE] at h2
  cases h3 : ekeq e2 e with
  | true =>
   have := ekeq_of.1 h3
   subst this
   rw [h3] at h2
   cases h2
   obtain ⟨b'', q1, q2⟩ := m1 _ b' a2
   exact ⟨b'', q1, a3.trans q2⟩
  | false =>
   rw [h3] at h2
   exact m2 e2 b2 h2

/-! ### a loop's head -/
def nrmOk (F : FA) (b : B) : Bool := b.sl.all fun p => nrmP F b p.1
theorem nrmOk_of {F : FA} {b : B} (h : nrmOk F b = true) (n : Nat) (x : D) : (b.nrm F).S n x = b.S n x := by
 have hp : ∀ i, b.has i = true → nrmP F b i = true := fun i hi => by
  simp only [B.has] at hi
  cases hl : look i b.sl with
  | none => rw [hl] at hi; cases hi
  | some κ => exact List.all_eq_true.1 h _ (look_mem hl)
 have hhas : ∀ i, (b.nrm F).has i = b.has i := fun i => by
  rw [nrm_eq, filt_has]
  cases hi : b.has i with
  | false => simp
  | true => rw [hp i hi]; rfl
 have hkd : (b.nrm F).kd = b.kd := funext fun l => by
  cases l with
  | s i k j =>
   by_cases hi : b.has i = true
   ·rw [nrm_eq]; exact filt_kd_of (hp i hi)
   ·rw [kd_has (show (b.nrm F).hasL (.s i k j) = false by show (b.nrm F).has i = false; rw [hhas]; simpa using hi), kd_has (show b.hasL (.s i k j) = false by show b.has i = false; simpa using hi)]
  | _ => rfl
 simp only [B.S, hhas, hkd]
 rfl
theorem nrm_cv (F : FA) (b : B) : Cv F b (b.nrm F) := fun x hA => ⟨hA.nrm, fun g0 w0 a w hs => hs.relax ((Low.self F.n b x).le hA)⟩
theorem leB_cv' {F : FA} {b' b : B} (h : leB b' b = true) (hn : nrmOk F b' = true) : Cv F b b' := fun x hA => by
 obtain ⟨h1, h2, h3⟩ := leB_of h
 have hA' : Ag F b' x := ⟨fun i hi => hA.sl i (h1 i hi), fun o ho => hA.ob o (h2 o ho)⟩
 obtain ⟨_, q⟩ := leB_cv h x hA
 exact ⟨hA', fun g0 w0 a w hs => by rw [← nrmOk_of hn]; exact q g0 w0 a w hs⟩

def iterC (F : FA) (f : B → Option Outs) : Nat → B → Option Outs
 | 0, _ => none
 | n + 1, h => match f h with
  | none => none
  | some o => match getE .n o with
   | none => some (dropE .n o)
   | some b1 => bif leB h b1 && nrmOk F h then some (dropE .n o) else bif leB (meetB h b1) h then iterC F f n ((meetB h b1).nrm F) else none

theorem iterC_of {F : FA} {f : B → Option Outs} : ∀ {n : Nat} {h : B} {outs : Outs}, iterC F f n h = some outs → ∃ h' o, Cv F h h' ∧ f h' = some o ∧ outs = dropE .n o ∧ (∀ b1, getE .n o = some b1 → Cv F b1 h') ∧ ∀ k, iterC F f (k + 1) h' = some outs
 | 0, h, outs, hh => by cases hh
 | n + 1, h, outs, hh => by
  have hh0 := hh
  unfold iterC at hh
  cases hf : f h with
  | none => rw [hf] at hh; cases hh
  | some o =>
   rw [hf] at hh
   simp only at hh
   cases hg : getE .n o with
   | none =>
    rw [hg] at hh
    cases hh
    exact ⟨h, o, Cv.refl F h, hf, rfl, fun b1 e => (by rw [hg] at e; cases e), fun k => by unfold iterC; rw [hf]; simp only [hg]⟩
   | some b1 =>
    rw [hg] at hh
    simp only at hh
    cases hc : (leB h b1 && nrmOk F h) with
    | true =>
     rw [hc] at hh
     cases hh
     simp only [Bool.and_eq_true] at hc
     refine ⟨h, o, Cv.refl F h, hf, rfl, fun b2 e => (by rw [hg] at e; cases e; exact leB_cv' hc.1 hc.2), fun k => ?_⟩
     unfold iterC; rw [hf]; simp only [hg, hc.1, hc.2, Bool.and_self, cond_true]
    | false =>
     rw [hc] at hh
     simp only [cond_false] at hh
     obtain ⟨hl, hh⟩ := cond_some hh
     obtain ⟨h', o', q1, q2⟩ := iterC_of hh
     exact ⟨h', o', (leB_cv hl).trans q1, q2⟩

/-! ### code -/
def keepB (F : FA) (id : Nat) (b : B) : B := match look id F.keep with
 | some l => b.filt fun i => mem i l
 | none => b
theorem keep_cv (F : FA) (id : Nat) (b : B) : Cv F b ((keepB F id b).nrm F) := fun x hA => by
 unfold keepB
 split
 ·rename_i l _
  have hA' := hA.filt (F := F) (fun i => mem i l)
  refine ⟨hA'.nrm, fun g0 w0 a w hs => hs.relax (Low.le hA' ⟨rfl, fun i hi => S_sl ?_, fun o ho => S_ob (n := F.n) ho, fun l' t hL _ => ?_, fun i k xs hi _ => ?_, fun i hi _ hf => ?_⟩)⟩
  ·rw [filt_has, Bool.and_eq_true] at hi; exact hi.2
  ·cases l' with
   | s i k j =>
    have hL : (b.filt fun i => mem i l).has i = true := hL
    rw [filt_has, Bool.and_eq_true] at hL
    rw [filt_kd_of hL.1]; exact lo_refl _
   | oc o j => exact lo_refl _
   | _ => cases hL
  ·rw [filt_has, Bool.and_eq_true] at hi
   rw [filt_kd_of hi.1]; exact lo_refl _
  ·rw [filt_has, Bool.and_eq_true] at hi
   rw [filt_kd_of hi.1] at hf; exact hf
 ·exact nrm_cv F b x hA

def bodyC (τ : TypeId → Option TI) (Sg : FuncId → List Sg) (F : FA) : Code → B → Option Outs
 | .skip, b => some [(.n, b)]
 | .label _, b => some [(.n, b)]
 | .exit i, b => some [(.e i, b)]
 | .ret, b => some [(.r, b)]
 | .seq x y, b => match bodyC τ Sg F x b with
  | none => none
  | some o1 => match getE .n o1 with
   | none => some o1
   | some b1 => match bodyC τ Sg F y b1 with
    | none => none
    | some o2 => mergeE F (dropE .n o1) o2
 | .cond c x y, b => bif knows b c then (match bodyC τ Sg F x b, bodyC τ Sg F y b with
  | some o1, some o2 => mergeE F o1 o2
  | _, _ => none) else none
 | .block id c, b => match bodyC τ Sg F c b with
  | none => none
  | some o => match getE (.e id) o with
   | none => some o
   | some b1 => addE F .n b1 (dropE (.e id) o)
 | .loop c, b => iterC F (bodyC τ Sg F c) 4 b
 | .region id ops dr, b => bif ops.toList.any deadO then some [] else match (match look id F.mks with | some L => bif dr then none else mkC τ Sg F b L ops.toList | none => bif dr then anyC τ Sg F meetB b ops else opsC τ Sg F (ops.toList.map (·.dst)) b ops.toList) with
  | some b1 => some [(.n, (keepB F id b1).nrm F)]
  | none => none
 | _, _ => some []
end Go.Own

/- Code's runs are what their data tell. -/
namespace Go.Own
open Go.RowKit

theorem rv_bool {g : G} {w : World} {κ : Nat → Nat → K} {l : Nat → Nat → Loc} {v : Value} {b : Bool} (h : RV g w κ l v (.one (.c (.bool b)))) : v = .bool b := by
 have := LF.scal (g' := g) (w' := w) (κ' := .F) (l' := .none) h.2 rfl
 have this : Rd _ _ _ _ := this
 cases this; rfl

theorem wanted_guard {F : FA} {b : B} {x : D} {n : Nat} {g0 : G} {w0 : World} {ops : Array Oper} {o : Oper} {g : G} {w : World} {a : Act} {t : Bool} (hs : SimG g0 w0 (b.S n x) a g w) (hk : guardB (ops.toList.map (·.dst)) b o.guard = true) (h : guardD (ops.toList.map (·.dst)) x o.guard = some t) :
  Region.wanted o (yielded ops a.tmps) = t := by
 have _ := F
 unfold Region.wanted
 cases hg : o.guard with
 | none => rw [hg] at h; simp only [guardD, Option.some.injEq] at h; exact h
 | some p =>
  obtain ⟨j, want⟩ := p
  rw [hg] at h hk
  simp only [guardD, List.getElem?_map, Array.getElem?_toList] at h
  simp only [guardB, List.getElem?_map, Array.getElem?_toList] at hk
  simp only [yielded]
  cases ho : ops[j]? with
  | none => rw [ho] at h; simp only [Option.map_none, Option.some.injEq] at h; subst h; simp
  | some oj =>
   rw [ho] at h hk
   simp only [Option.map_some] at h hk
   simp only [Option.bind_some]
   cases hd : oj.dst with
   | none => rw [hd] at h; simp only [Option.some.injEq] at h; subst h; simp
   | some d =>
    rw [hd] at h hk
    simp only at h hk
    simp only [Option.bind_some]
    have hr := hs.slots d
    rw [S_sl hk] at hr
    split at h
    ·rename_i b' hb
     rw [hb] at hr
     have hv := rv_bool hr
     simp only [Option.some.injEq] at h
     rw [Array.getD_eq_getD_getElem?] at hv
     cases ht : a.tmps[d]? with
     | none => rw [ht] at hv; simp [undef] at hv
     | some u =>
      rw [ht] at hv
      simp only [Option.getD_some] at hv
      subst hv
      simp only
      rw [← h]
      cases b' <;> cases want <;> rfl
    ·rename_i hb
     rw [hb] at hr
     obtain ⟨vs, hv, hn, _⟩ := hr
     simp only [Option.some.injEq] at h
     subst h
     rw [Array.getD_eq_getD_getElem?] at hv
     cases ht : a.tmps[d]? with
     | none => simp
     | some u =>
      rw [ht] at hv
      simp only [Option.getD_some] at hv
      subst hv
      simp
    ·cases h

def noDo (z : Nat) : List Oper → Bool
 | [] => true
 | o :: r => !(decide (o.dst = some z)) && noDo z r
def noD (z : Nat) : Code → Bool
 | .seq a b => noD z a && noD z b
 | .cond _ a b => noD z a && noD z b
 | .block _ c => noD z c
 | .loop c => noD z c
 | .region _ ops _ => noDo z ops.toList
 | _ => true

theorem put_other {a : Act} {d : Option Nat} {u : Value} {z : Nat} (h : d ≠ some z) : (a.put d u).tmps.getD z undef = a.tmps.getD z undef := put_getD_opt a d u z h

/-- What is checked of the value that is turned in place. -/
def ioEnd (F : FA) (b bo : B) (rs : List ResultVar) (c : Code) : Bool := match F.io with
 | none => true
 | some z => b.has z && (b.kd (.s z 0 0)).hand true (bo.kd (.s 1 0 0)) && (!(bo.kd (.s 1 0 0)).hold || decide (sigR F rs F.n0 F.io (.s z 0 0) = .s 1 0 0)) && noD z c
/-- What is checked of a function of the library. -/
def libC (F : FA) (q : List (List (List K)) × List (List K) × Bool) (sg : Sg) : Bool :=
 F.sh.isEmpty && decide (sg.bi.sl = rowsB 0 q.1) && sg.bi.ob.isEmpty && decide (sg.bo.sl = [(0, q.2.1)]) && sg.bo.ob.isEmpty && Nat.beq sg.np q.1.length && Nat.ble 1 sg.np && decide (sg.io = none) && decide (sg.ext = q.2.2) && Nat.beq sg.no 0
/-- What is checked of a function. -/
def fnC (τ : TypeId → Option TI) (An : FuncId → FA) (Sgs : FuncId → List Sg) (f : FuncId) (sg : Sg) (fn : Func) (c : Code) : Bool := match (An f).lb with
 | some q => libC (An f) q sg
 | none =>
 Nat.beq (An f).n fn.ntmps && Nat.ble fn.ntmps par && Nat.ble sg.np fn.ntmps && !(fn.name == "runtime.NumGoroutine") && sg.bi.sl.all (fun p => Nat.blt p.1 sg.np) && sg.bi.ob.all (fun p => Nat.ble par p.1 && Nat.blt p.1 (par + sg.no)) &&
 decide (sg.io = (An f).io) && sg.bo.sl.all (fun p => Nat.beq p.1 0 || (Nat.beq p.1 1 && (An f).io.isSome)) && sg.bo.ob.all (fun p => Nat.beq p.1 0 || sg.bi.hasO p.1) &&
 (match bodyC τ Sgs (An f) c sg.bi with
  | none => false
  | some outs => (match getE .n outs with | none => true | some b => resAll (An f) b sg.bo (sigR (An f) fn.results.toList (An f).n0 (An f).io) 0 fn.results.toList && objsB (An f) b sg.bo (An f).n0 && ioEnd (An f) b sg.bo fn.results.toList c) &&
   (match getE .r outs with | none => true | some b => resAll (An f) b sg.bo (sigR (An f) fn.results.toList (An f).n0 (An f).io) 0 fn.results.toList && objsB (An f) b sg.bo (An f).n0 && ioEnd (An f) b sg.bo fn.results.toList c))

def Mot (P : Program) (τ : TypeId → Option TI) (Sgs : FuncId → List Sg) : Jd → Prop
 | .code F c x e x' => ∀ b outs, bodyC τ Sgs F c b = some outs → Ag F b x → ∃ (b' : B) (k : Nat), getE e outs = some b' ∧ Ag F b' x' ∧ ∀ g0 w0 (Q : Exit → Act → World → Prop) a w, Sim g0 w0 (b.S F.n x) a w →
   (∀ a' w', Sim g0 w0 (b'.S F.n x') a' w' → (∀ z, noD z c = true → a'.tmps.getD z undef = a.tmps.getD z undef) → Q e.exit a' w') → c.wp P Q a w ∧ ∀ c', c = .loop c' → Code.rounds P c' Q k a w
 | .ops F ds os x x' => ∀ (ops : Array Oper) i, ops.toList.drop i = os → ds = ops.toList.map (·.dst) → ∀ b b', opsC τ Sgs F ds b os = some b' → Ag F b x → Ag F b' x' ∧ (∀ g0 w0 (Q : Exit → Act → World → Prop) a w, Sim g0 w0 (b.S F.n x) a w →
   (∀ a' w', Sim g0 w0 (b'.S F.n x') a' w' → (∀ z, noDo z os = true → a'.tmps.getD z undef = a.tmps.getD z undef) → Q .normal a' w') → wpOps P ops Q (List.range' i os.length) a w) ∧ ∀ b2, opsK τ Sgs F ds b os = some b2 → RunF P τ Sgs F ds ops (List.range' i os.length) x x'
 | .fn f vs ob r io ob' nw => ∀ sg ∈ Sgs f, sg.np = vs.length → sg.no = ob.length → TC P f sg vs ob r io ob' nw

theorem wpOp_of {P : Program} {ops : Array Oper} {o : Oper} {i : Nat} {Q : Exit → Act → World → Prop} {K : Act → World → Prop} {a : Act} {w : World} (hi : ops[i]? = some o) (t : Bool) (hw : Region.wanted o (yielded ops a.tmps) = t) (h : if t then o.wp P a w K Q else K (a.put o.dst undef) w) : wpOp P ops Q i K a w := by
 unfold Go.wpOp
 simp only [hi]
 rw [hw]
 cases t with
 | true => exact .inl h
 | false => exact h

theorem stepC_of {τ : TypeId → Option TI} {Sgs : FuncId → List Sg} {F : FA} {ds : List (Option Nat)} {b b' : B} {o : Oper} (h : stepC τ Sgs F ds b o = some b') : ∃ b1, runC τ Sgs F b o = some b1 ∧ b' = (b1.frz F (fzL F b1 o.dst)).nrm F ∧ guardB ds b o.guard = true ∧ (o.guard ≠ none → unlessB F b (b1.frz F (fzL F b1 o.dst)) o.dst = true) := by
 unfold stepC at h
 split at h <;> try cases h
 rename_i b1 h1
 obtain ⟨hc, h⟩ := cond_some h
 cases h
 simp only [Bool.and_eq_true] at hc
 refine ⟨b1, h1, rfl, hc.1, fun hg => ?_⟩
 have := hc.2
 split at this
 ·rename_i e; exact absurd e hg
 ·exact this
/-- What has no run has none. -/
theorem dead_nos {P : Program} {τ : TypeId → Option TI} {An : FuncId → FA} {J : Jd} (h : Big P τ An J) : match J with | .ops _ _ os _ _ => os.any deadO = false | _ => True := by
 induction h with
 | opsNil F ds x => rfl
 | @opsSkip F ds o r x x2 hg h2 ih2 =>
  simp only [List.any_cons, Bool.or_eq_false_iff]
  refine ⟨?_, ih2⟩
  unfold deadO
  split
  ·rename_i e1 e2
   rw [e2] at hg
   cases hg
  ·rfl
 | @opsRun F ds o r x x1 x2 hg h1 h2 ih2 =>
  simp only [List.any_cons, Bool.or_eq_false_iff]
  refine ⟨?_, ih2⟩
  unfold deadO
  split
  ·rename_i e1 e2
   split
   ·rename_i v e3
    unfold dOp at h1
    rw [e1] at h1
    simp only [e3] at h1
    cases h1
   ·rfl
  ·rfl
 | @opsCall F ds o rs x x2 c v f caps ob ob' r nw hg ho hcal hni hx hth hob h1 hsh h2 ih1 ih2 =>
  simp only [List.any_cons, Bool.or_eq_false_iff]
  refine ⟨?_, ih2⟩
  unfold deadO
  rw [ho]
  split <;> rfl
 | @opsIo F ds o rs x x2 c v f r t xs l p x0 es es' hg ho hcal hio hx hth hargs hal hat hnav h1 hsh h2 ih1 ih2 =>
  simp only [List.any_cons, Bool.or_eq_false_iff]
  refine ⟨?_, ih2⟩
  unfold deadO
  rw [ho]
  split <;> rfl
 | _ => trivial
theorem dead_no {P : Program} {τ : TypeId → Option TI} {An : FuncId → FA} {F : FA} {ds : List (Option Nat)} {os : List Oper} {x x' : D} (h : Big P τ An (.ops F ds os x x')) : os.any deadO = false := dead_nos h
theorem libC_of {F : FA} {q : List (List (List K)) × List (List K) × Bool} {sg : Sg} (h : libC F q sg = true) : sg = libSg q ∧ F.sh = [] ∧ 1 ≤ sg.np := by
 unfold libC at h
 simp only [Bool.and_eq_true, List.isEmpty_iff, decide_eq_true_eq] at h
 obtain ⟨⟨⟨⟨⟨⟨⟨⟨⟨h1, h2⟩, h3⟩, h4⟩, h5⟩, h6⟩, h7⟩, h8⟩, h9⟩, h10⟩ := h
 obtain ⟨⟨s1, s2⟩, ⟨s3, s4⟩, s5, s6, s7, s8⟩ := sg
 simp only at h2 h3 h4 h5 h6 h7 h8 h9 h10
 have h6 := Nat.eq_of_beq_eq_true h6
 have h10 := Nat.eq_of_beq_eq_true h10
 subst h2 h3 h4 h5 h6 h8 h9 h10
 exact ⟨rfl, h1, Nat.le_of_ble_eq_true h7⟩
end Go.Own

/- The same, off their code. -/
namespace Go.Own
open Go.RowKit
set_option linter.unusedVariables false

theorem wp_val {P : Program} {o : Oper} {a : Act} {w w' : World} {v : Value} {K : Act → World → Prop} {Q : Exit → Act → World → Prop} (h : (execOp a.eval o).run P w = .ok (.value v) w') (hK : K (a.put o.dst v) w') : o.wp P a w K Q := by
 unfold Oper.wp
 rw [h]
 exact hK
theorem wp_callf {P : Program} {o : Oper} {a : Act} {w : World} {c : Call} {g : FuncId} {K : Act → World → Prop} {Q : Exit → Act → World → Prop} (ho : o.op = .call c) (hc : c.callee = .value (.func g)) (h : NextOk P ((callFunc g (c.args.map a.eval)).run P w) (fun u w' => K (a.put o.dst u) w')) : o.wp P a w K Q := by
 have hrun : (execOp a.eval o).run P w = (callFunc g (c.args.map a.eval)).run P w := by
  obtain ⟨dst, op, ty, pos, after, guard⟩ := o
  simp only at ho
  subst ho
  have hfv : a.eval (.func g) = .func (.func g) #[] #[] := rfl
  simp only [execOp, resolve, hc, hfv, Deferred.ofValue, Sem.run_bind, Sem.run_pure, Result.andThen_ok, invoke]
  congr 2
  apply Array.ext'
  simp
 unfold Oper.wp
 rw [hrun]
 revert h
 generalize (callFunc g _).run P w = r
 intro hC
 unfold NextOk at hC
 split at hC
 ·exact hC
 ·rw [Oper.upon_enter]
  refine Calls.mono hC ?_
  rintro e w' ⟨v, rfl, h⟩
  exact h
 ·exact hC.elim
theorem run_move {P : Program} {ρ : Operand → Value} {o : Oper} {x : Operand} {w : World} (ho : o.op = .move x) : (execOp ρ o).run P w = .ok (.value (ρ x)) w := by
 obtain ⟨dst, op, ty, pos, after, guard⟩ := o
 simp only at ho
 subst ho
 rfl
theorem run_assign {P : Program} {ρ : Operand → Value} {o : Oper} {x : Operand} {w : World} (ho : o.op = .assign x) : (execOp ρ o).run P w = .ok (.value (ρ x)) w := by
 obtain ⟨dst, op, ty, pos, after, guard⟩ := o
 simp only at ho
 subst ho
 rfl
theorem run_box {P : Program} {ρ : Operand → Value} {o : Oper} {x : Operand} {ty : TypeId} {w : World} (ho : o.op = .box ty x) : (execOp ρ o).run P w = .ok (.value (.pointer (some ⟨w.heap.size, 0, none⟩))) (w.alloc (.cells (ρ x).cells ty)) := by
 obtain ⟨dst, op, ty', pos, after, guard⟩ := o
 simp only at ho
 subst ho
 simp only [execOp, Instr.box, newVar, newRow, Sem.run_bind, run_newObj, World.alloc_eq, Result.andThen_ok, Sem.run_pure]

/-- An operation without a guard. -/
theorem wpOp_plain {P : Program} {ops : Array Oper} {o : Oper} {i : Nat} {Q : Exit → Act → World → Prop} {K : Act → World → Prop} {a : Act} {w : World} (hi : ops[i]? = some o) (hg : o.guard = none) (h : o.wp P a w K Q) : wpOp P ops Q i K a w :=
 wpOp_of hi true (by unfold Region.wanted; rw [hg]) h

section
variable {P : Program} {τ : TypeId → Option TI}
/-- The state of such a function between two regions. -/
structure MkSt (a : Act) (w : World) (N b : Nat) (cs : List Value) (ty : TypeId) (k : Int) (Bx : Nat → Prop) : Prop where
 size : a.tmps.size = N
 defers : a.defers = []
 k : a.tmps.getD 1 undef = .int .i64 k
 ptr : a.tmps.getD 2 undef = .pointer (some ⟨b, 0, none⟩)
 row : w.heap[b]? = some (.cells cs.toArray ty (0, 0))
 box : Bx b
 bs : ∀ b, Bx b → b < w.heap.size

theorem put_size (a : Act) (d : Nat) (u : Value) : (a.put (some d) u).tmps.size = a.tmps.size := by simp [Act.put]
theorem mk_region (hT : Tables P τ) {S T : TypeId} {fi off sz : Nat} {ag : Bool} {fs : List (Nat × Nat × Bool)} {i : TI} {g : FuncId} {L1 L2 : List (Nat × FuncId)} {N b id d1 d2 d3 d4 : Nat} {cs : List Value} {ty : TypeId} {k : Int} {Bx : Nat → Prop} {a : Act} {w : World} {R : Value → World → Prop} {Q : Exit → Act → World → Prop}
  {t1 t2 t3 t4 t5 : TypeId} {p1 p2 p3 p4 p5 : String} {f1 f2 f3 f4 f5 : Array Edge} {c : Call} (hS : tk τ S = some (.struct fs)) (hf : fs[fi]? = some (off, sz, ag)) (hi : τ T = some i) (h1 : i.agg = false → i.size = 1) (hM : Marks P g i.agg i.size L1) (hle : off + i.size ≤ cs.length)
  (hc1 : c.callee = .value (.func g)) (hc2 : c.args = #[.tmp d2, .tmp d3]) (hd : (Nat.blt 2 d1 && Nat.blt d1 d2 && Nat.blt d2 d3 && Nat.blt d3 d4 && Nat.blt d4 N) = true)
  (hst : MkSt a w N b cs ty k Bx) (hseq : seqNext P (shiftL off L1 ++ L2) cs k w Bx R) (hK : ∀ k' a' w', MkSt a' w' N b cs ty k' Bx → seqNext P L2 cs k' w' Bx R → Q .normal a' w') :
  (Code.region id #[⟨some d1, .fieldAddr S (.tmp 2) fi, t1, p1, f1, none⟩, ⟨some d2, .load T (.tmp d1), t2, p2, f2, none⟩, ⟨some d3, .move (.tmp 1), t3, p3, f3, none⟩, ⟨some d4, .call c, t4, p4, f4, none⟩, ⟨some 1, .assign (.tmp d4), t5, p5, f5, none⟩] false).wp P Q a w := by
 simp only [Bool.and_eq_true] at hd
 obtain ⟨⟨⟨⟨e1, e2⟩, e3⟩, e4⟩, e5⟩ := hd
 have e1 := blt_of e1; have e2 := blt_of e2; have e3 := blt_of e3; have e4 := blt_of e4; have e5 := blt_of e5
 refine wp_region ?_
 show wpOps P _ Q [0, 1, 2, 3, 4] a w
 rw [wpOps_cons]
 refine wpOp_plain rfl rfl (wp_val (v := .pointer (some ⟨b, 0 + off, none⟩)) (fieldAddr_run hT hS hf (ρ := a.eval) (x := .tmp 2) hst.ptr rfl w) ?_)
 rw [Nat.zero_add]
 obtain ⟨u, hu, hv⟩ := load_raw hT hi (p := off) hst.row (by simpa using hle) h1
 have s1 : (a.put (some d1) (.pointer (some ⟨b, off, none⟩))).tmps.size = N := by rw [put_size]; exact hst.size
 show wpOps P _ Q [1, 2, 3, 4] (a.put (some d1) (.pointer (some ⟨b, off, none⟩))) w
 have g1 : ∀ j, (a.put (some d1) (.pointer (some ⟨b, off, none⟩))).tmps.getD j undef = if j = d1 then .pointer (some ⟨b, off, none⟩) else a.tmps.getD j undef := fun j => Act.put_getD a d1 _ j (by rw [hst.size]; omega)
 generalize ha1 : a.put (some d1) (.pointer (some ⟨b, off, none⟩)) = a1 at s1 g1
 have df1 : a1.defers = [] := by rw [← ha1]; exact hst.defers
 rw [wpOps_cons]
 refine wpOp_plain rfl rfl (wp_val (v := u) (load_run (ρ := a1.eval) (x := .tmp d1) rfl (by show a1.tmps.getD d1 undef = _; rw [g1, if_pos rfl]) hu) ?_)
 show wpOps P _ Q [2, 3, 4] (a1.put (some d2) u) w
 have s2 : (a1.put (some d2) u).tmps.size = N := by rw [put_size]; exact s1
 have g2 : ∀ j, (a1.put (some d2) u).tmps.getD j undef = if j = d2 then u else a1.tmps.getD j undef := fun j => Act.put_getD a1 d2 _ j (by rw [s1]; omega)
 have df2 : (a1.put (some d2) u).defers = [] := df1
 generalize a1.put (some d2) u = a2 at s2 g2 df2
 rw [wpOps_cons]
 refine wpOp_plain rfl rfl (wp_val (v := .int .i64 k) (by
  rw [run_move (x := .tmp 1) rfl]
  show Result.ok (Next.value (a2.tmps.getD 1 undef)) w = _
  rw [g2, if_neg (by omega), g1, if_neg (by omega), hst.k]) ?_)
 show wpOps P _ Q [3, 4] (a2.put (some d3) (.int .i64 k)) w
 have s3 : (a2.put (some d3) (.int .i64 k)).tmps.size = N := by rw [put_size]; exact s2
 have g3 : ∀ j, (a2.put (some d3) (.int .i64 k)).tmps.getD j undef = if j = d3 then .int .i64 k else a2.tmps.getD j undef := fun j => Act.put_getD a2 d3 _ j (by rw [s2]; omega)
 have df3 : (a2.put (some d3) (.int .i64 k)).defers = [] := df2
 generalize a2.put (some d3) (.int .i64 k) = a3 at s3 g3 df3
 rw [wpOps_cons]
 refine wpOp_plain rfl rfl (wp_callf (c := c) rfl hc1 ?_)
 have hargs : c.args.map a3.eval = #[u, .int .i64 k] := by
  rw [hc2]
  have q1 : a3.eval (.tmp d2) = u := by
   show a3.tmps.getD d2 undef = _
   rw [g3, if_neg (by omega), g2, if_pos rfl]
  have q2 : a3.eval (.tmp d3) = .int .i64 k := by
   show a3.tmps.getD d3 undef = _
   rw [g3, if_pos rfl]
  simp [q1, q2]
 rw [hargs]
 have hap := seqNext.app hseq hst.bs
 refine (hM.2 u _ k w Bx _ hv (by simp; omega) hst.bs (seqNext.shift hM.1 hap)).mono fun v w2 ⟨k', e, hkeep, hn⟩ => ?_
 subst e
 show wpOps P _ Q [4] (a3.put (some d4) (.int .i64 k')) w2
 have s4 : (a3.put (some d4) (.int .i64 k')).tmps.size = N := by rw [put_size]; exact s3
 have g4 : ∀ j, (a3.put (some d4) (.int .i64 k')).tmps.getD j undef = if j = d4 then .int .i64 k' else a3.tmps.getD j undef := fun j => Act.put_getD a3 d4 _ j (by rw [s3]; omega)
 have df4 : (a3.put (some d4) (.int .i64 k')).defers = [] := df3
 generalize a3.put (some d4) (.int .i64 k') = a4 at s4 g4 df4
 rw [wpOps_cons]
 refine wpOp_plain rfl rfl (wp_val (v := .int .i64 k') (by
  rw [run_assign (x := .tmp d4) rfl]
  show Result.ok (Next.value (a4.tmps.getD d4 undef)) w2 = _
  rw [g4, if_pos rfl]) ?_)
 show Q .normal (a4.put (some 1) (.int .i64 k')) w2
 have g5 : ∀ j, (a4.put (some 1) (.int .i64 k')).tmps.getD j undef = if j = 1 then .int .i64 k' else a4.tmps.getD j undef := fun j => Act.put_getD a4 1 _ j (by rw [s4]; omega)
 refine hK k' _ w2 ⟨by rw [put_size]; exact s4, df4, by rw [g5, if_pos rfl], ?_, ?_, hst.box, fun b hb => (hkeep b hb).1⟩ hn
 ·rw [g5, if_neg (by omega), g4, if_neg (by omega), g3, if_neg (by omega), g2, if_neg (by omega), g1, if_neg (by omega)]; exact hst.ptr
 ·rw [(hkeep b hst.box).2]; exact hst.row

/-- The head: the struct boxed. -/
theorem mk_head {S : TypeId} {N id r : Nat} {cs : List Value} {k : Int} {Bx : Nat → Prop} {a : Act} {w : World} {Q : Exit → Act → World → Prop} {cv : Value} {t1 t2 : TypeId} {p1 p2 : String} {f1 f2 : Array Edge} (hr : (Nat.blt 2 r && Nat.blt r N) = true) (hsz : a.tmps.size = N) (hdf : a.defers = []) (h0 : a.tmps.getD 0 undef = .agg cs.toArray) (h1 : a.tmps.getD 1 undef = .int .i64 k) (hbs : ∀ b, Bx b → b < w.heap.size)
  (hK : ∀ a' w', MkSt a' w' N w.heap.size cs S k (fun b => Bx b ∨ b = w.heap.size) → ExtW w w' → Q .normal a' w') :
  (Code.region id #[⟨some 2, .box S (.tmp 0), t1, p1, f1, none⟩, ⟨some r, .assign (.const cv), t2, p2, f2, none⟩] false).wp P Q a w := by
 simp only [Bool.and_eq_true] at hr
 obtain ⟨e1, e2⟩ := hr
 have e1 := blt_of e1; have e2 := blt_of e2
 refine wp_region ?_
 show wpOps P _ Q [0, 1] a w
 rw [wpOps_cons]
 have hb := run_box (P := P) (ρ := a.eval) (o := ⟨some 2, .box S (.tmp 0), t1, p1, f1, none⟩) (x := .tmp 0) (ty := S) (w := w) rfl
 refine wpOp_plain rfl rfl (wp_val hb ?_)
 have hcells : (a.eval (.tmp 0)).cells = cs.toArray := by
  show (a.tmps.getD 0 undef).cells = _
  rw [h0]; rfl
 rw [hcells]
 have hsz2 : (w.alloc (.cells cs.toArray S)).heap.size = w.heap.size + 1 := Array.size_push ..
 have hE : ExtW w (w.alloc (.cells cs.toArray S)) := ⟨by rw [hsz2]; omega, fun b hb => heap_alloc_old w _ b hb, rfl, rfl, rfl⟩
 have hnew : (w.alloc (.cells cs.toArray S)).heap[w.heap.size]? = some (.cells cs.toArray S (0, 0)) := heap_alloc_new w _
 have hlt : w.heap.size < (w.alloc (.cells cs.toArray S)).heap.size := by
  rcases Nat.lt_or_ge w.heap.size (w.alloc (.cells cs.toArray S)).heap.size with h | h
  ·exact h
  ·rw [Array.getElem?_eq_none h] at hnew; cases hnew
 generalize w.alloc (.cells cs.toArray S) = w1 at hE hnew hlt
 show wpOps P _ Q [1] (a.put (some 2) (.pointer (some ⟨w.heap.size, 0, none⟩))) w1
 have s1 : (a.put (some 2) (.pointer (some ⟨w.heap.size, 0, none⟩))).tmps.size = N := by rw [put_size]; exact hsz
 have g1 : ∀ j, (a.put (some 2) (.pointer (some ⟨w.heap.size, 0, none⟩))).tmps.getD j undef = if j = 2 then .pointer (some ⟨w.heap.size, 0, none⟩) else a.tmps.getD j undef := fun j => Act.put_getD a 2 _ j (by rw [hsz]; omega)
 have df1 : (a.put (some 2) (.pointer (some ⟨w.heap.size, 0, none⟩))).defers = [] := hdf
 generalize a.put (some 2) (.pointer (some ⟨w.heap.size, 0, none⟩)) = a1 at s1 g1 df1
 rw [wpOps_cons]
 refine wpOp_plain rfl rfl (wp_val (v := cv) (run_assign (x := .const cv) rfl) ?_)
 show Q .normal (a1.put (some r) cv) w1
 have g2 : ∀ j, (a1.put (some r) cv).tmps.getD j undef = if j = r then cv else a1.tmps.getD j undef := fun j => Act.put_getD a1 r _ j (by rw [s1]; omega)
 refine hK _ w1 ⟨by rw [put_size]; exact s1, df1, ?_, ?_, hnew, .inr rfl, fun b hb => ?_⟩ hE
 ·rw [g2, if_neg (by omega), g1, if_neg (by omega)]; exact h1
 ·rw [g2, if_neg (by omega), g1, if_pos rfl]
 ·rcases hb with hb | rfl
  ·exact Nat.lt_of_lt_of_le (hbs b hb) hE.size
  ·exact hlt

/-- The tail: the number goes out. -/
theorem mk_tail {fn : Func} {N b id r e : Nat} {cs : List Value} {ty : TypeId} {k : Int} {Bx : Nat → Prop} {a : Act} {w : World} {R : Value → World → Prop} {t1 t2 : TypeId} {p1 p2 : String} {f1 f2 : Array Edge} (hr : (Nat.blt 2 r && Nat.blt r N && Nat.blt 2 e && Nat.blt e N) = true) (hres : fn.results.toList = [.tmp r]) (hst : MkSt a w N b cs ty k Bx) (hseq : seqNext P [] cs k w Bx R) :
  (Code.seq (.region id #[⟨some e, .move (.tmp 1), t1, p1, f1, none⟩, ⟨some r, .assign (.tmp e), t2, p2, f2, none⟩] false) .ret).wp P (bodyPost P fn (fun ed w' => ∃ v, ed = .returned v ∧ R v w')) a w := by
 simp only [Bool.and_eq_true] at hr
 obtain ⟨⟨⟨e1, e2⟩, e3⟩, e4⟩ := hr
 have e1 := blt_of e1; have e2 := blt_of e2; have e3 := blt_of e3; have e4 := blt_of e4
 refine wp_seq (wp_region ?_)
 show wpOps P _ _ [0, 1] a w
 rw [wpOps_cons]
 refine wpOp_plain rfl rfl (wp_val (v := .int .i64 k) (by
  rw [run_move (x := .tmp 1) rfl]
  show Result.ok (Next.value (a.tmps.getD 1 undef)) w = _
  rw [hst.k]) ?_)
 show wpOps P _ _ [1] (a.put (some e) (.int .i64 k)) w
 have s1 : (a.put (some e) (.int .i64 k)).tmps.size = N := by rw [put_size]; exact hst.size
 have g1 : ∀ j, (a.put (some e) (.int .i64 k)).tmps.getD j undef = if j = e then .int .i64 k else a.tmps.getD j undef := fun j => Act.put_getD a e _ j (by rw [hst.size]; omega)
 have df1 : (a.put (some e) (.int .i64 k)).defers = [] := hst.defers
 generalize a.put (some e) (.int .i64 k) = a1 at s1 g1 df1
 rw [wpOps_cons]
 refine wpOp_plain rfl rfl (wp_val (v := .int .i64 k) (by
  rw [run_assign (x := .tmp e) rfl]
  show Result.ok (Next.value (a1.tmps.getD e undef)) w = _
  rw [g1, if_pos rfl]) ?_)
 have g2 : ∀ j, (a1.put (some r) (.int .i64 k)).tmps.getD j undef = if j = r then .int .i64 k else a1.tmps.getD j undef := fun j => Act.put_getD a1 r _ j (by rw [s1]; omega)
 refine wp_ret ?_
 have hrr := run_results (P := P) (w := w) (fn := fn) (tmps := (a1.put (some r) (.int .i64 k)).tmps) (us := [.int .i64 k]) (by rw [hres]; rfl) (fun q x u hq hu => by
  rw [hres] at hq
  cases q with
  | zero =>
   cases hq; cases hu
   show (resRun _ (.tmp r)).run P w = _
   have := g2 r
   rw [if_pos rfl] at this
   simp only [resRun, this, Sem.run_pure]
  | succ q => cases hq)
 exact ⟨df1, _, hrr, _, rfl, hseq w (ExtW.refl w)⟩

/-- A function of that shape. -/
theorem Marks.of {f : FuncId} {fn : Func} {c : Code} {S : TypeId} {n : Nat} {L : List (Nat × FuncId)} (hf : P.funcs[f]? = some fn) (hb : fn.body = some c) (hname : (fn.name == "runtime.NumGoroutine") = false) (hN : 2 ≤ fn.ntmps) (hL : ∀ x ∈ L, x.1 < n)
  (h : ∀ (cs : List Value) (k : Int) (w : World) (Bx : Nat → Prop) (R : Value → World → Prop) (a : Act), cs.length = n → a.tmps.size = fn.ntmps → a.defers = [] → a.tmps.getD 0 undef = .agg cs.toArray → a.tmps.getD 1 undef = .int .i64 k → (∀ b, Bx b → b < w.heap.size) → seqNext P L cs k w Bx R → c.wp P (bodyPost P fn (fun ed w' => ∃ v, ed = .returned v ∧ R v w')) a w) : Marks P f true n L := by
 refine ⟨hL, fun v cs k w Bx Q hv hl hs hq => ?_⟩
 simp only [valC, if_true] at hv
 subst hv
 have hcall : (callFunc f #[.agg cs.toArray, .int .i64 k]).run P w = .ok (.enter f #[.agg cs.toArray, .int .i64 k]) w := by
  have hne : fn.name ≠ "runtime.NumGoroutine" := by simpa using hname
  simp [callFunc, run_program, hf, hne, hb]
 rw [hcall]
 show Calls P f _ w _
 refine calls_of_wp hf hb (h cs k w Bx Q _ hl ?_ rfl ?_ ?_ hs hq)
 ·simp; omega
 ·simp [Array.getD_eq_getD_getElem?, Array.getElem?_append]
 ·simp [Array.getD_eq_getD_getElem?, Array.getElem?_append]
end
theorem seqNext.more {P : Program} {L : List (Nat × FuncId)} {cs : List Value} {k : Int} {w w1 : World} {Bx Bx1 : Nat → Prop} {Q : Value → World → Prop} (h : seqNext P L cs k w Bx Q) (hE : ExtW w w1) (h1 : ∀ b, Bx b → Bx1 b) (h2 : ∀ b, Bx1 b → ¬ Bx b → w.heap.size ≤ b) : seqNext P L cs k w1 Bx1 Q := by
 cases L with
 | nil => exact fun w2 h3 => h w2 (hE.trans h3)
 | cons x L =>
  obtain ⟨off, g⟩ := x
  refine fun w2 Bx2 h3 h4 h5 h6 => h w2 Bx2 (hE.trans h3) (fun b hb => h4 b (h1 b hb)) (fun b hb hn => ?_) h6
  by_cases e : Bx1 b
  ·exact h2 b e hn
  ·exact Nat.le_trans hE.size (h5 b hb e)
section
variable {P : Program} {τ : TypeId → Option TI}
theorem mk_start {S : TypeId} {N id r : Nat} {cs : List Value} {k : Int} {L : List (Nat × FuncId)} {Bx : Nat → Prop} {a : Act} {w : World} {R : Value → World → Prop} {Q : Exit → Act → World → Prop} {cv : Value} {t1 t2 : TypeId} {p1 p2 : String} {f1 f2 : Array Edge} {c : Code} (hr : (Nat.blt 2 r && Nat.blt r N) = true) (hsz : a.tmps.size = N) (hdf : a.defers = []) (h0 : a.tmps.getD 0 undef = .agg cs.toArray) (h1 : a.tmps.getD 1 undef = .int .i64 k) (hbs : ∀ b, Bx b → b < w.heap.size)
  (hq : seqNext P L cs k w Bx R) (hK : ∀ a' w' b Bx', MkSt a' w' N b cs S k Bx' → seqNext P L cs k w' Bx' R → c.wp P Q a' w') :
  (Code.seq (.region id #[⟨some 2, .box S (.tmp 0), t1, p1, f1, none⟩, ⟨some r, .assign (.const cv), t2, p2, f2, none⟩] false) c).wp P Q a w :=
 wp_seq (mk_head hr hsz hdf h0 h1 hbs fun a' w' hst hE => hK a' w' _ _ hst (hq.more hE (fun _ h => .inl h) fun b hb hn => by
  rcases hb with hb | rfl
  ·exact absurd hb hn
  ·exact Nat.le_refl _))
theorem mk_step (hT : Tables P τ) {S T : TypeId} {fi off sz : Nat} {ag : Bool} {fs : List (Nat × Nat × Bool)} {i : TI} {g : FuncId} {L1 : List (Nat × FuncId)} (L2 : List (Nat × FuncId)) {N b id d1 d2 d3 d4 : Nat} {cs : List Value} {ty : TypeId} {k : Int} {Bx : Nat → Prop} {a : Act} {w : World} {R : Value → World → Prop} {Q : Exit → Act → World → Prop}
  {t1 t2 t3 t4 t5 : TypeId} {p1 p2 p3 p4 p5 : String} {f1 f2 f3 f4 f5 : Array Edge} {c : Call} {rest : Code} (hS : tk τ S = some (.struct fs)) (hf : fs[fi]? = some (off, sz, ag)) (hi : τ T = some i) (h1 : i.agg = false → i.size = 1) (hM : Marks P g i.agg i.size L1) (hle : off + i.size ≤ cs.length)
  (hc1 : c.callee = .value (.func g)) (hc2 : c.args = #[.tmp d2, .tmp d3]) (hd : (Nat.blt 2 d1 && Nat.blt d1 d2 && Nat.blt d2 d3 && Nat.blt d3 d4 && Nat.blt d4 N) = true)
  (hst : MkSt a w N b cs ty k Bx) (hseq : seqNext P (shiftL off L1 ++ L2) cs k w Bx R) (hK : ∀ k' a' w', MkSt a' w' N b cs ty k' Bx → seqNext P L2 cs k' w' Bx R → rest.wp P Q a' w') :
  (Code.seq (.region id #[⟨some d1, .fieldAddr S (.tmp 2) fi, t1, p1, f1, none⟩, ⟨some d2, .load T (.tmp d1), t2, p2, f2, none⟩, ⟨some d3, .move (.tmp 1), t3, p3, f3, none⟩, ⟨some d4, .call c, t4, p4, f4, none⟩, ⟨some 1, .assign (.tmp d4), t5, p5, f5, none⟩] false) rest).wp P Q a w :=
 wp_seq (mk_region hT hS hf hi h1 hM hle hc1 hc2 hd hst hseq hK)
end
end Go.Own

/- The slices of an object's cells, turned one after another. -/
namespace Go.Own
open Go.RowKit
set_option linter.unusedVariables false

/-- The callee's contract, of the usual kind. -/
def TCm (P : Program) (m : MR) : Prop := ∃ sg : Sg, TC P m.g sg [.one (.c (.sl m.es)), .one (.c (.int .i64 m.k))] [] (.one (.c (.int .i64 m.k1))) (some (.sl m.es')) [] none ∧ sg.io = some 0 ∧ sg.np = 2 ∧ sg.bi = biM ∧ sg.bo.has 0 = true ∧ sg.bo.has 1 = true ∧ sg.bo.kd (.s 1 0 0) = .U 0
def turnM (o p0 : Nat) : List MR → St → St
 | [], st => st
 | m :: r, st => turnM o p0 r (st.turn (.oc o (p0 + m.off)) (.U 0) (.sl m.es'))

theorem turn_ob {st : St} {o j : Nat} {κ : K} {z : T} (o' : Nat) : (st.turn (.oc o j) κ z).ob o' = if o' = o then (st.ob o').map (·.set j z) else st.ob o' := rfl
theorem turn_fl {st : St} {o j : Nat} {κ : K} {z : T} (o' j' : Nat) : (st.turn (.oc o j) κ z).fl (.oc o' j') = if Loc.oc o' j' = .oc o j then κ else if st.fl (.oc o' j') = .V then .D else st.fl (.oc o' j') := by
 show (if Loc.oc o' j' = .oc o j then κ else _) = _
 by_cases e : Loc.oc o' j' = .oc o j
 ·rw [if_pos e, if_pos e]
 ·rw [if_neg e, if_neg e]
  show (if isL (.oc o j) (.oc o' j') = true then K.D else st.killV.fl (.oc o' j')) = _
  rw [if_neg (by simpa [isL] using e)]
  rfl

theorem seq_sim {P : Program} {g0 : G} {w0 : World} {a : Act} {o p0 : Nat} {cs : List Value} {cells' : List T} {k' : Int} {Q : Value → World → Prop} : ∀ (rs : List MR) {st : St} {g : G} {w : World} {Bx : Nat → Prop} {cells : List T} {k : Int}, SimG g0 w0 st a g w → st.ob o = some cells → (∀ m ∈ rs, TCm P m) → (∀ m ∈ rs, ∃ n, st.fl (.oc o (p0 + m.off)) = .U n) →
  chainM p0 rs cells k cells' k' → (∀ b, Bx b → b < w.heap.size ∧ g.own b = .none) → (∀ m ∈ rs, cs[m.off]? = w.cell? ⟨g.β o, p0 + m.off, none⟩) → (∀ w1 w2 gb, SimG g0 w0 (turnM o p0 rs st) a gb w1 → gb.β = g.β → ExtW w1 w2 → Q (.int .i64 k') w2) →
  seqNext P (rs.map fun m => (m.off, m.g)) cs k w Bx Q
 | [], st, g, w, Bx, cells, k, hs, hob, hC, hk, hch, hB, hcs, hQ => fun w1 hE => by
  obtain ⟨rfl, rfl⟩ := hch
  exact hQ w w1 g hs rfl hE
 | m :: r, st, g, w, Bx, cells, k, hs, hob, hC, hk, hch, hB, hcs, hQ => fun w1 Bx1 hE h2 h3 h4 => by
  obtain ⟨hes, rfl, hch⟩ := hch
  obtain ⟨sg, c1, c2, c3, c4, c5, c6, c7⟩ := hC m List.mem_cons_self
  obtain ⟨n, hn⟩ := hk m List.mem_cons_self
  have hat : st.at (.oc o (p0 + m.off)) = some (.sl m.es) := by rw [St.at_oc, hob]; exact hes
  obtain ⟨v0, hv0, _, _⟩ := hs.get hat
  have hcell : cs[m.off]? = some v0 := (hcs m List.mem_cons_self).trans hv0
  refine ⟨v0, hcell, (io_core hs hE c1 c2 c3 c4 c5 c6 c7 rfl hn hat hv0).mono fun u w2 ⟨e, gb, q1, q2, q3, q4⟩ => ?_⟩
  have hB1 : ∀ b, Bx1 b → g.own b = .none := fun b hb => by
   by_cases e : Bx b
   ·exact (hB b e).2
   ·have hge := h3 b hb e
    cases hg : g.own b with
    | none => rfl
    | _ =>
     exfalso
     have := hs.ok.own b (by rw [hg]; simp)
     omega
  obtain ⟨arr, ty, r1, r2, r3, _⟩ := hs.obs o cells hob
  refine ⟨m.k1, e, fun b hb => ⟨(q4 b (h4 b hb) (hB1 b hb)).1, (q4 b (h4 b hb) (hB1 b hb)).2.1⟩, ?_⟩
  refine seq_sim r q1 (cells := cells.set (p0 + m.off) (.sl m.es')) (by rw [turn_ob, if_pos rfl, hob]; rfl) (fun x hx => hC x (List.mem_cons_of_mem _ hx)) (fun x hx => ?_) hch (fun b hb => ⟨(q4 b (h4 b hb) (hB1 b hb)).1, (q4 b (h4 b hb) (hB1 b hb)).2.2⟩) (fun x hx => ?_) (fun w3 w4 gc h5 h6 h7 => hQ w3 w4 gc h5 (h6.trans q2) h7)
  ·obtain ⟨n', hn'⟩ := hk x (List.mem_cons_of_mem _ hx)
   rw [turn_fl]
   split
   ·exact ⟨0, rfl⟩
   ·rw [hn']; exact ⟨n', by simp⟩
  ·rw [hcs x (List.mem_cons_of_mem _ hx), q2]
   exact (cell_of_heap (q3 o _ r3)).symm
end Go.Own

/- A region that hands a struct of an object to a function that turns its slices: told of states. -/
namespace Go.Own
open Go.RowKit
set_option linter.unusedVariables false

theorem ExtW.calm {g : G} {w w1 : World} (hok : GOk g w) (h : ExtW w w1) (st : St) : Calm g w g w1 (fun _ => False) st :=
 ⟨⟨h.size, fun b hb _ => ⟨rfl, h.keep b hb⟩⟩, fun _ h => h.elim, .inl fun b hb => ⟨⟨Nat.lt_of_lt_of_le hb.1 h.size, hb.2⟩, h.keep b hb.1⟩, h.os, h.tape, h.output, ⟨fun b hb => Nat.lt_of_lt_of_le (hok.own b hb) h.size⟩⟩

def kS (_ _ : Nat) : K := .S
theorem rv_vI (g : G) (w : World) (l : Nat → Nat → Loc) (k : Int) : RV g w kS l (.int .i64 k) (vI k) := ⟨⟨by simp, by simp⟩, rfl, .int .i64 k⟩
theorem vI_ev {g : G} {w : World} {κ : Nat → Nat → K} {l : Nat → Nat → Loc} {v : Value} {k : Int} (h : RV g w κ l v (vI k)) : v = .int .i64 k := by
 have := LF.scal (g' := g) (w' := w) (κ' := .F) (l' := .none) h.2 rfl
 have this : Rd _ _ _ _ := this
 cases this; rfl

def St.mkSt (st : St) (o p0 t t' r r0 : Nat) (rs : List MR) (k k' : Int) : St :=
 ((turnM o p0 rs ((st.put t (.one .junk) (fun _ _ => .D)).put t' (vI k) kS)).put r (vI k') kS).put r0 (vI k') kS

theorem turnM_n {o p0 : Nat} : ∀ {rs : List MR} {st : St}, (turnM o p0 rs st).n = st.n
 | [], st => rfl
 | m :: r, st => by simp only [turnM]; rw [turnM_n]; rfl

theorem mkReg_ok {P : Program} {τ : TypeId → Option TI} (hT : Tables P τ) {g0 : G} {w0 : World} {st : St} {S : TypeId} {i : TI} {f : FuncId} {c : Call} {o p0 tp tk t t' r r0 id : Nat} {cells cells' : List T} {k k' : Int} {rs : List MR} {a : Act} {w : World} {Q : Exit → Act → World → Prop}
  {t1 t2 t3 t4 : TypeId} {p1 p2 p3 p4 : String} {f1 f2 f3 f4 : Array Edge} (hs : Sim g0 w0 st a w) (hi : τ S = some i) (h1 : i.agg = false → i.size = 1) (hM : Marks P f i.agg i.size (rs.map fun m => (m.off, m.g))) (hle : p0 + i.size ≤ cells.length)
  (hc1 : c.callee = .value (.func f)) (hc2 : c.args = #[.tmp t, .tmp t']) (hd : (Nat.blt t t' && Nat.blt t' r && Nat.blt r st.n && Nat.blt r0 st.n && !(Nat.beq tk t) && !(Nat.beq tp t)) = true)
  (htp : st.sl tp = .one (.ptr o p0)) (htk : st.sl tk = vI k) (hob : st.ob o = some cells) (hC : ∀ m ∈ rs, TCm P m) (hk : ∀ m ∈ rs, ∃ n, st.fl (.oc o (p0 + m.off)) = .U n) (hch : chainM p0 rs cells k cells' k')
  (hQ : ∀ a' w', Sim g0 w0 (st.mkSt o p0 t t' r r0 rs k k') a' w' → (∀ z, z ≠ t → z ≠ t' → z ≠ r → z ≠ r0 → a'.tmps.getD z undef = a.tmps.getD z undef) → Q .normal a' w') :
  (Code.region id #[⟨some t, .load S (.tmp tp), t1, p1, f1, none⟩, ⟨some t', .move (.tmp tk), t2, p2, f2, none⟩, ⟨some r, .call c, t3, p3, f3, none⟩, ⟨some r0, .assign (.tmp r), t4, p4, f4, none⟩] false).wp P Q a w := by
 obtain ⟨g, hs⟩ := hs
 simp only [Bool.and_eq_true, Bool.not_eq_true'] at hd
 obtain ⟨⟨⟨⟨⟨e1, e2⟩, e3⟩, e4⟩, e5⟩, e6⟩ := hd
 have e1 := blt_of e1; have e2 := blt_of e2; have e3 := blt_of e3; have e4 := blt_of e4
 have e5 : tk ≠ t := fun h => by rw [h, Nat.beq_refl] at e5; cases e5
 have hst1 : (st.put t (.one .junk) (fun _ _ => .D)).n = st.n := rfl
 obtain ⟨arr, ty, r1, r2, r3, _⟩ := hs.obs o cells hob
 obtain ⟨u, hu, hv⟩ := load_raw hT hi (p := p0) r1 (by rw [r2]; exact hle) h1
 have hptr : a.tmps.getD tp undef = .pointer (some ⟨g.β o, p0, none⟩) := by
  have := hs.slots tp
  rw [htp] at this
  exact this
 have hkv : a.tmps.getD tk undef = .int .i64 k := by
  have := hs.slots tk
  rw [htk] at this
  exact vI_ev this
 refine wp_region ?_
 show wpOps P _ Q [0, 1, 2, 3] a w
 rw [wpOps_cons]
 refine wpOp_plain rfl rfl (wp_val (v := u) (load_run (ρ := a.eval) (x := .tmp tp) rfl hptr hu) ?_)
 show wpOps P _ Q [1, 2, 3] (a.put (some t) u) w
 have g1 : ∀ j, (a.put (some t) u).tmps.getD j undef = if j = t then u else a.tmps.getD j undef := fun j => Act.put_getD a t _ j (by rw [hs.size]; omega)
 have hs1 := hs.set (d := t) (u := u) (r := .one .junk) (κ := fun _ _ => .D) (by omega) trivial (fun h => absurd rfl h)
 generalize a.put (some t) u = a1 at g1 hs1
 rw [wpOps_cons]
 refine wpOp_plain rfl rfl (wp_val (v := .int .i64 k) (by
  rw [run_move (x := .tmp tk) rfl]
  show Result.ok (Next.value (a1.tmps.getD tk undef)) w = _
  rw [g1, if_neg e5, hkv]) ?_)
 show wpOps P _ Q [2, 3] (a1.put (some t') (.int .i64 k)) w
 have g2 : ∀ j, (a1.put (some t') (.int .i64 k)).tmps.getD j undef = if j = t' then .int .i64 k else a1.tmps.getD j undef := fun j => Act.put_getD a1 t' _ j (by rw [hs1.size]; show t' < st.n; omega)
 have hs2 := hs1.set (d := t') (u := .int .i64 k) (r := vI k) (κ := kS) (by show t' < st.n; omega) (rv_vI g w _ k) (fun h => absurd rfl h)
 generalize a1.put (some t') (.int .i64 k) = a2 at g2 hs2
 rw [wpOps_cons]
 refine wpOp_plain rfl rfl (wp_callf (c := c) rfl hc1 ?_)
 have hargs : c.args.map a2.eval = #[u, .int .i64 k] := by
  have q1 : a2.eval (.tmp t) = u := by
   show a2.tmps.getD t undef = _
   rw [g2, if_neg (by omega), g1, if_pos rfl]
  have q2 : a2.eval (.tmp t') = .int .i64 k := by
   show a2.tmps.getD t' undef = _
   rw [g2, if_pos rfl]
  rw [hc2]
  simp [q1, q2]
 rw [hargs]
 have hlen : ((arr.toList.drop p0).take i.size).length = i.size := by simp; omega
 have hoff : ∀ m ∈ rs, m.off < i.size := fun m hm => hM.1 (m.off, m.g) (List.mem_map.2 ⟨m, hm, rfl⟩)
 refine hM.2 u _ k w (fun _ => False) _ hv hlen (fun _ h => h.elim) (seq_sim rs (cells := cells) hs2 hob hC (fun m hm => ?_) hch (fun _ h => h.elim) (fun m hm => ?_) (fun w1 w2 gb h5 h6 hE => ?_))
 ·obtain ⟨n, hn⟩ := hk m hm
  exact ⟨n, hn⟩
 ·rw [List.getElem?_take, if_pos (hoff m hm), List.getElem?_drop, cell_of_row w _ _ arr ty _ r1]; simp
 ·show wpOps P _ Q [3] (a2.put (some r) (.int .i64 k')) w2
  have g3 : ∀ j, (a2.put (some r) (.int .i64 k')).tmps.getD j undef = if j = r then .int .i64 k' else a2.tmps.getD j undef := fun j => Act.put_getD a2 r _ j (by rw [hs2.size]; show r < st.n; omega)
  have hs3 := h5.put (hE.calm h5.ok _) (fun _ => rfl) (d := r) (by rw [turnM_n]; show r < st.n; omega) (fun _ _ _ _ h => h) (u := .int .i64 k') (r := vI k') (κ := kS) (rv_vI gb w2 _ k') (fun h => absurd rfl h)
  generalize a2.put (some r) (.int .i64 k') = a3 at g3 hs3
  rw [wpOps_cons]
  refine wpOp_plain rfl rfl (wp_val (v := .int .i64 k') (by
   rw [run_assign (x := .tmp r) rfl]
   show Result.ok (Next.value (a3.tmps.getD r undef)) w2 = _
   rw [g3, if_pos rfl]) ?_)
  have g4 : ∀ j, (a3.put (some r0) (.int .i64 k')).tmps.getD j undef = if j = r0 then .int .i64 k' else a3.tmps.getD j undef := fun j => Act.put_getD a3 r0 _ j (by
   rw [hs3.size]
   show r0 < (turnM o p0 rs _).n
   rw [turnM_n]
   show r0 < st.n
   omega)
  have hs4 := hs3.set (d := r0) (u := .int .i64 k') (r := vI k') (κ := kS) (by
   show r0 < (turnM o p0 rs _).n
   rw [turnM_n]
   show r0 < st.n
   omega) (rv_vI gb w2 _ k') (fun h => absurd rfl h)
  show Q .normal (a3.put (some r0) (.int .i64 k')) w2
  refine hQ _ w2 ⟨gb, hs4⟩ (fun z z1 z2 z3 z4 => ?_)
  rw [g4, if_neg z4, g3, if_neg z3, g2, if_neg z2, g1, if_neg z1]
end Go.Own

/- A region that hands a struct of an object to a function that turns its slices: told without the data. -/
namespace Go.Own
open Go.RowKit
set_option linter.unusedVariables false

theorem dropPut_low {F : FA} {n : Nat} {b : B} {x : D} {s : St} (hA : Ag F b x) (h : Low n b x s) {d : Nat} {r : V} {κ : Nat → Nat → K} : Low n (b.filt (awayP F d)) x (s.put d r κ) := by
 have hhas : ∀ i, (b.filt (awayP F d)).has i = true → b.has i = true ∧ i ≠ d ∧ inSlot d (rootOf (F.shOf i)) = false := fun i hi => by
  rw [filt_has, Bool.and_eq_true] at hi
  have h1 := hi.1
  simp only [awayP, Bool.and_eq_true, Bool.not_eq_true'] at h1
  exact ⟨hi.2, (fun e => by rw [e, Nat.beq_refl] at h1; cases h1.1), h1.2⟩
 have hroot : ∀ i, (b.filt (awayP F d)).has i = true → inSlot d (rootOf (s.sl i)) = false := fun i hi => by
  obtain ⟨h1, _, h2⟩ := hhas i hi
  rw [h.sl i h1]
  rcases hA.sl i h1 with e2 | e2
  ·rw [e2]; rfl
  ·rw [fits_root e2]; exact h2
 have hkd : ∀ i k j, (b.filt (awayP F d)).has i = true → (b.filt (awayP F d)).kd (.s i k j) = b.kd (.s i k j) := fun i k j hi => filt_kd_of (by rw [filt_has, Bool.and_eq_true] at hi; exact hi.1)
 have hfl : ∀ i k j, (b.filt (awayP F d)).has i = true → (s.put d r κ).fl (.s i k j) = s.fl (.s i k j) := fun i k j hi => by
  simp only [St.put, if_neg (hhas i hi).2.1]
  rw [if_neg]
  rintro ⟨_, _, h3⟩
  rw [hroot i hi] at h3; cases h3
 refine ⟨h.n, fun i hi => ?_, fun o ho => h.ob o ho, fun l t hL ht => ?_, fun i k xs hi hx => ?_, fun i hi hr' hf => ?_⟩
 ·simp only [St.put, if_neg (hhas i hi).2.1]; exact h.sl i (hhas i hi).1
 ·cases l with
  | s i k j => rw [hfl i k j hL, hkd i k j hL]; exact h.fl (.s i k j) t (hhas i hL).1 ht
  | oc o j => exact h.fl (.oc o j) t hL ht
  | _ => cases hL
 ·rw [hfl i k 0 hi, hkd i k 0 hi]; exact h.cp i k xs (hhas i hi).1 hx
 ·rw [hfl i 0 0 hi]
  rw [hkd i 0 0 hi] at hf
  exact h.al i (hhas i hi).1 hr' hf

theorem turn_hasO {F : FA} {b : B} {l : Loc} {o : Nat} : (b.turn F l).hasO o = b.hasO o := by
 unfold B.turn B.killV
 rw [setf_hasO, filt_hasO, setf_hasO, setf_hasO]
theorem conf_sl (es es' : List (List T)) (u : T) : conf (.sl es) u = conf (.sl es') u := by cases u <;> rfl
theorem turn_low {F : FA} {n : Nat} {b : B} {x : D} {s : St} (hA : Ag F b x) (h : Low n b x s) {o j : Nat} {es es' : List (List T)} (hV : ∀ i, b.has i = true → s.fl (.s i 0 0) = .V → b.kd (.s i 0 0) = .V) (hL : b.hasO o = true) (hat : x.at (.oc o j) = some (.sl es)) :
  Ag F (b.turn F (.oc o j)) (x.upd (.oc o j) (.sl es')) ∧ Low n (b.turn F (.oc o j)) (x.upd (.oc o j) (.sl es')) (s.turn (.oc o j) (.U 0) (.sl es')) := by
 have hl0 : isL (.oc o j) .none = false := rfl
 have hA1 : Ag F (b.killV F) x := hA.setf _ _
 have h1 : Low n (b.killV F) x s.killV := setf_low hA h rfl (fun l _ hh => by
  by_cases e : b.kd l = .V
  ·rw [if_pos e]; exact lo_D _
  ·rw [if_neg e]
   by_cases e2 : s.fl l = .V
   ·rw [e2] at hh
    have : b.kd l = .D := by
     revert hh e
     cases b.kd l <;> simp [K.lo]
    rw [this]; exact lo_D _
   ·rw [if_neg e2]; exact hh) (fun i hi hh hf => by
   by_cases e : b.kd (.s i 0 0) = .V
   ·rw [if_pos e] at hf; exact absurd rfl hf
   ·rw [if_neg e] at hf
    have := hh hf
    by_cases e2 : s.fl (.s i 0 0) = .V
    ·exact absurd (hV i hi e2) e
    ·rw [if_neg e2]; exact this)
 have hA2 : Ag F ((b.killV F).setf F (isL (.oc o j)) (fun m q => if isL (.oc o j) m = true then .D else q)) x := hA1.setf _ _
 have h2 : Low n ((b.killV F).setf F (isL (.oc o j)) (fun m q => if isL (.oc o j) m = true then .D else q)) x (s.killV.drop (isL (.oc o j))) := setf_low hA1 h1 hl0 (fun m _ hh => by
   by_cases e : isL (.oc o j) m = true
   ·rw [if_pos e, if_pos e]; exact lo_refl _
   ·rw [if_neg e, if_neg e]; exact hh) (fun i _ hh hf => by
   by_cases e : isL (.oc o j) (.s i 0 0) = true
   ·rw [if_pos e] at hf; exact absurd rfl hf
   ·rw [if_neg e] at hf ⊢; exact hh hf)
 have hL2 : ((b.killV F).setf F (isL (.oc o j)) (fun m q => if isL (.oc o j) m = true then .D else q)).hasL (.oc o j) = true := by
  show B.hasO _ o = true
  unfold B.killV
  rw [setf_hasO, setf_hasO]; exact hL
 have h3 := upd_low (z := .sl es') hA2 h2 hL2 hat (by simp)
 have hA3 := (hA2.upd (z := .sl es') hL2 hat (fun u => conf_sl es es' u)).filt (notRoot F (.oc o j))
 refine ⟨hA3.setf _ _, setf_low (R := isL (.oc o j)) (f := fun m => if m = .oc o j then .U 0 else ((s.killV.drop (isL (.oc o j))).upd (.oc o j) (.sl es')).fl m) hA3 h3 hl0 (fun m _ hh => ?_) (fun i _ hh hf => ?_)⟩
 ·by_cases e : m = .oc o j
  ·rw [if_pos e, if_pos e]; exact lo_refl _
  ·rw [if_neg e, if_neg e]; exact hh
 ·rw [if_neg (by simp)] at hf ⊢; exact hh hf
theorem turn_noV {st : St} {l : Loc} {κ : K} {z : T} (hκ : κ ≠ .V) (m : Loc) : (st.turn l κ z).fl m ≠ .V := by
 unfold St.turn St.raise
 refine setf_noV (fun m => ?_) m
 split
 ·exact hκ
 ·show ((st.killV.drop (isL l)).upd l z).fl m ≠ .V
  have h0 : ∀ m, (st.killV.drop (isL l)).fl m ≠ .V := fun m => by
   refine setf_noV (fun m => ?_) m
   split
   ·simp
   ·exact killV_noV st m
  cases m with
  | s i k j =>
   simp only [St.upd]
   split
   ·simp
   ·exact h0 _
  | none => exact h0 .none
  | ext => exact h0 .ext
  | obj o => exact h0 (.obj o)
  | oc o j => exact h0 (.oc o j)
theorem turnM_low {F : FA} {n o p0 : Nat} {cells' : List T} {k' : Int} : ∀ (rs : List MR) {b : B} {x : D} {s : St} {cells : List T} {k : Int}, Ag F b x → Low n b x s → (∀ i, b.has i = true → s.fl (.s i 0 0) = .V → b.kd (.s i 0 0) = .V) → b.hasO o = true → x.ob o = some cells → chainM p0 rs cells k cells' k' →
  Ag F (B.turnM F o p0 (rs.map (·.off)) b) (D.updM o p0 rs x) ∧ Low n (B.turnM F o p0 (rs.map (·.off)) b) (D.updM o p0 rs x) (turnM o p0 rs s)
 | [], b, x, s, cells, k, hA, h, _, _, _, _ => ⟨hA, h⟩
 | m :: r, b, x, s, cells, k, hA, h, hV, hL, hob, hch => by
  obtain ⟨h1, rfl, h2⟩ := hch
  have hat : x.at (.oc o (p0 + m.off)) = some (.sl m.es) := by
   show (x.ob o).bind (·[p0 + m.off]?) = _
   rw [hob]; exact h1
  obtain ⟨q1, q2⟩ := turn_low (es' := m.es') hA h hV hL hat
  refine turnM_low r q1 q2 (fun i _ e => absurd e (turn_noV (by simp) _)) (by rw [turn_hasO]; exact hL) ?_ h2
  show obSet x.ob (.oc o (p0 + m.off)) (.sl m.es') o = _
  simp only [obSet, if_true, hob]; rfl
end Go.Own

/- A region that hands a struct of an object to a function that turns its slices: sound. -/
namespace Go.Own
open Go.RowKit
set_option linter.unusedVariables false

theorem fits_vI (k : Int) (s : V) : Own.fits (vI k) s = Own.fits (vI 0) s := by
 cases s with
 | tup ws => rfl
 | one w => cases w <;> first | rfl | (rename_i y; cases y <;> rfl)

theorem mkReg_S {P : Program} {τ : TypeId → Option TI} {Sgs : FuncId → List Sg} (hT : Tables P τ) {F : FA} {b b' : B} {x : D} (hA : Ag F b x) {S : TypeId} {i : TI} {f : FuncId} {c : Call} {o p0 tp tk t t' r r0 r2 id : Nat} {cells cells' : List T} {k k' : Int} {rs : List MR}
  {t1 t2 t3 t4 : TypeId} {p1 p2 p3 p4 : String} {f1 f2 f3 f4 : Array Edge} (hi : τ S = some i) (h1 : i.agg = false → i.size = 1) (hM : Marks P f i.agg i.size (rs.map fun m => (m.off, m.g))) (hle : p0 + i.size ≤ cells.length)
  (hc1 : c.callee = .value (.func f)) (hc2 : c.args = #[.tmp t, .tmp t']) (hr2 : r2 = r) (htp : x.sl tp = .one (.ptr o p0)) (htk : x.sl tk = vI k) (hob : x.ob o = some cells)
  (hC : ∀ m ∈ rs, ∀ sg ∈ Sgs m.g, sg.np = 2 → sg.no = 0 → TC P m.g sg [.one (.c (.sl m.es)), .one (.c (.int .i64 m.k))] [] (.one (.c (.int .i64 m.k1))) (some (.sl m.es')) [] none) (hch : chainM p0 rs cells k cells' k')
  (hc : mkC τ Sgs F b (rs.map fun m => (m.off, m.g)) [⟨some t, .load S (.tmp tp), t1, p1, f1, none⟩, ⟨some t', .move (.tmp tk), t2, p2, f2, none⟩, ⟨some r, .call c, t3, p3, f3, none⟩, ⟨some r0, .assign (.tmp r2), t4, p4, f4, none⟩] = some b') :
  Ag F b' ((D.updM o p0 rs x).put r0 (vI k')) ∧ ∀ g0 w0 (Q : Exit → Act → World → Prop) a w, Sim g0 w0 (b.S F.n x) a w → (∀ a' w', Sim g0 w0 (b'.S F.n ((D.updM o p0 rs x).put r0 (vI k'))) a' w' → (∀ z, z ≠ t → z ≠ t' → z ≠ r → z ≠ r0 → a'.tmps.getD z undef = a.tmps.getD z undef) → Q .normal a' w') →
   (Code.region id #[⟨some t, .load S (.tmp tp), t1, p1, f1, none⟩, ⟨some t', .move (.tmp tk), t2, p2, f2, none⟩, ⟨some r, .call c, t3, p3, f3, none⟩, ⟨some r0, .assign (.tmp r2), t4, p4, f4, none⟩] false).wp P Q a w := by
 subst hr2
 simp only [mkC] at hc
 split at hc <;> try cases hc
 rename_i o' p0' hsh
 obtain ⟨hq, hc⟩ := cond_some hc
 simp only [Bool.and_eq_true] at hq
 obtain ⟨⟨⟨⟨⟨c1, c2⟩, c3⟩, c4⟩, c5⟩, c6⟩ := hq
 have hop : o' = o ∧ p0' = p0 := by
  have hf := hA.fits c1 (by rw [htp]; simp)
  rw [htp, hsh] at hf
  simp only [Own.fits, fitsW, Bool.and_eq_true] at hf
  exact ⟨(Nat.eq_of_beq_eq_true hf.1).symm, (Nat.eq_of_beq_eq_true hf.2).symm⟩
 obtain ⟨rfl, rfl⟩ := hop
 cases hc
 have hc4 : ∀ m ∈ rs, (∃ n, b.kd (.oc o' (p0' + m.off)) = .U n) ∧ ∃ sg ∈ Sgs m.g, okSg sg = true := fun m hm => by
  have := List.all_eq_true.1 c4 (m.off, m.g) (List.mem_map.2 ⟨m, hm, rfl⟩)
  simp only [Bool.and_eq_true] at this
  refine ⟨?_, List.any_eq_true.1 this.2⟩
  revert this
  cases b.kd (.oc o' (p0' + m.off)) <;> simp [isU]
 have hTC : ∀ m ∈ rs, TCm P m := fun m hm => by
  obtain ⟨sg, h2, h3⟩ := (hc4 m hm).2
  simp only [okSg, Bool.and_eq_true] at h3
  obtain ⟨⟨⟨⟨⟨⟨q1, q2⟩, q3⟩, q4⟩, q5⟩, q6⟩, q7⟩ := h3
  exact ⟨sg, hC m hm sg h2 (Nat.eq_of_beq_eq_true q2) (Nat.eq_of_beq_eq_true q3), of_decide_eq_true q1, Nat.eq_of_beq_eq_true q2, okBi_of q4, q5, q6, of_decide_eq_true q7⟩
 have hl0 := Low.self F.n b x
 have hl1 := dropPut_low (d := t) (r := .one .junk) (κ := fun _ _ => .D) hA hl0
 have hA1 := hA.filt (awayP F t)
 have hl2 := dropPut_low (d := t') (r := vI k) (κ := kS) hA1 hl1
 have hA2 := hA1.filt (awayP F t')
 have hV : ∀ i, ((b.filt (awayP F t)).filt (awayP F t')).has i = true → (((b.S F.n x).put t (.one .junk) (fun _ _ => .D)).put t' (vI k) kS).fl (.s i 0 0) = .V → ((b.filt (awayP F t)).filt (awayP F t')).kd (.s i 0 0) = .V := fun i hi hv => by
  rw [filt_has, filt_has, Bool.and_eq_true, Bool.and_eq_true] at hi
  obtain ⟨h2, h3, h4⟩ := hi
  rw [filt_kd_of h2, filt_kd_of h3]
  have e1 : i ≠ t' := fun e => by rw [e] at h2; simp [awayP, Nat.beq_refl] at h2
  have e2 : i ≠ t := fun e => by rw [e] at h3; simp [awayP, Nat.beq_refl] at h3
  simp only [St.put, if_neg e1, if_neg e2] at hv
  split at hv
  ·cases hv
  ·split at hv
   ·cases hv
   ·exact hv
 obtain ⟨hA3, hl3⟩ := turnM_low rs hA2 hl2 hV c2 hob hch
 have hl4 := dropPut_low (d := r2) (r := vI k') (κ := kS) hA3 hl3
 have hA4 := hA3.filt (awayP F r2)
 have hfit : Own.fits (vI k') (F.shOf r0) = true := by rw [fits_vI]; exact c6
 have hl5 := put_low (d := r0) (r := vI k') (κ := kS) (f := fun _ _ => .S) hA4 hl4 (.inr hfit) (fun _ _ _ _ => rfl) (fun kk xs h => by cases kk <;> simp [vI, V.comp] at h) (fun h => absurd rfl h)
 have hA5 := hA4.put (d := r0) (r := vI k') (f := fun _ _ => .S) (.inr hfit)
 have hmap : (rs.map fun m => (m.off, m.g)).map (·.1) = rs.map (·.off) := by rw [List.map_map]; rfl
 rw [hmap]
 refine ⟨hA5.nrm, fun g0 w0 Q a w hs hQ => ?_⟩
 exact mkReg_ok hT hs hi h1 hM hle hc1 hc2 (by simp only [Bool.and_eq_true]; exact c5) (by rw [S_sl c1]; exact htp) (by rw [S_sl c3]; exact htk) (by rw [S_ob c2]; exact hob) hTC (fun m hm => (hc4 m hm).1) hch (fun a' w' hs' hz => hQ a' w' (hs'.relax (hl5.le hA5)) hz)
end Go.Own

/- A region whose order is drawn comes out alike in every order. -/
namespace Go.Own
open Go.RowKit

theorem SimG.drawn {g0 : G} {w0 : World} {st : St} {a : Act} {g : G} {w : World} (n : Nat) (h : SimG g0 w0 st a g w) : SimG g0 w0 st a g { w with drawn := n } := by
 have hE : Evo g w g { w with drawn := n } (fun _ => False) := ⟨Nat.le_refl _, fun b _ _ => ⟨rfl, rfl⟩⟩
 have hC : Calm g w g { w with drawn := n } (fun _ => False) st := { evo := hE, X := fun _ h => h.elim, V := .inl fun b hb => ⟨hb, rfl⟩, os := rfl, tape := rfl, output := rfl, ok := ⟨h.ok.own⟩ }
 refine ⟨h.framed.trans hC.framed, hC.ok, h.size, h.defers, fun i => RV.calm hC h.ok (fun _ => rfl) (fun _ _ _ h => h) (h.slots i), fun o cells hc => ?_, fun i hi hf => ?_, h.bp, h.nle⟩
 ·obtain ⟨arr, ty, h1, h2, h3, h4⟩ := h.obs o cells hc
  refine ⟨arr, ty, h1, h2, h3, fun j x hx => ?_⟩
  obtain ⟨c, c1, c2, c3⟩ := h4 j x hx
  exact ⟨c, c1, c2, hC.lf h.ok (by simp) (fun _ h => h) c3⟩
 ·obtain ⟨h1, h2⟩ := h.pls i hi hf
  refine ⟨h1, h2.congr ?_ rfl (fun v0 x0 p v' x' e1 e2 e3 => h.pl_evo hE (fun h => h) h1 (fun h => h) e1 e2 e3)⟩
  cases rootOf (st.sl i) <;> rfl
theorem Sim.drawn {g0 : G} {w0 : World} {s : St} {a : Act} {w : World} (n : Nat) (h : Sim g0 w0 s a w) : Sim g0 w0 s a { w with drawn := n } := by
 obtain ⟨g, h⟩ := h
 exact ⟨g, h.drawn n⟩
/-- All that has to be ahead of what is listed is listed. -/
def Closed (ops : Array Oper) (D : Nat → Prop) : Prop := ∀ j o, ops[j]? = some o → D j → ∀ e ∈ o.after, Region.binds .any e = true → D e.on

theorem before_acc (ops : Array Oper) (D : Nat → Prop) (hD : Closed ops D) : ∀ (l : List Oper) (acc : Array Nat), (∀ k o, l[k]? = some o → ops[acc.size + k]? = some o) →
  (∀ j i, D j → j < acc.size → (acc.getD j 0).testBit i = true → D i) →
  ∀ j i, D j → ((l.foldl (init := acc) fun acc o => acc.push (o.after.foldl (fun s e => if Region.binds .any e then s ||| 2 ^ e.on ||| acc.getD e.on 0 else s) 0)).getD j 0).testBit i = true → D i
 | [], acc, _, h2, j, i, hj, hb => by
  simp only [List.foldl_nil] at hb
  by_cases hlt : j < acc.size
  ·exact h2 j i hj hlt hb
  ·have : acc.getD j 0 = 0 := by simp [Array.getD, hlt]
   rw [this] at hb; simp at hb
 | o :: r, acc, h1, h2, j, i, hj, hb => by
  rw [List.foldl_cons] at hb
  refine before_acc ops D hD r _ (fun k o' hk => ?_) (fun j i hj hlt hb => ?_) j i hj hb
  ·rw [Array.size_push, Nat.add_assoc, Nat.add_comm 1 k]
   exact h1 (k + 1) o' (by simpa using hk)
  ·rw [Array.size_push] at hlt
   by_cases e : j = acc.size
   ·have ho : ops[j]? = some o := by
     have := h1 0 o rfl
     rw [e]; exact this
    subst e
    have hb' : ((o.after.foldl (fun s e => if Region.binds .any e then s ||| 2 ^ e.on ||| acc.getD e.on 0 else s) 0)).testBit i = true := by
     simpa [Array.getD] using hb
    rw [← Array.foldl_toList] at hb'
    have key : ∀ (es : List Edge) (s : Nat), (∀ e ∈ es, e ∈ o.after) → (s.testBit i = true → D i) → (es.foldl (fun s e => if Region.binds .any e then s ||| 2 ^ e.on ||| acc.getD e.on 0 else s) s).testBit i = true → D i := by
     intro es
     induction es with
     | nil => intro s _ hs h; exact hs h
     | cons e es ih =>
      intro s hmem hs h
      rw [List.foldl_cons] at h
      refine ih _ (fun e he => hmem e (List.mem_cons_of_mem _ he)) (fun h => ?_) h
      split at h
      ·rename_i hbd
       have hon := hD _ o ho hj e (hmem e List.mem_cons_self) hbd
       rw [Nat.testBit_or, Nat.testBit_or, Bool.or_eq_true, Bool.or_eq_true] at h
       rcases h with (h | h) | h
       ·exact hs h
       ·rw [Nat.testBit_two_pow] at h
        have : e.on = i := by simpa using h
        rw [← this]; exact hon
       ·by_cases hlt : e.on < acc.size
        ·exact h2 _ _ hon hlt h
        ·have : acc.getD e.on 0 = 0 := by simp [Array.getD, hlt]
         rw [this] at h; simp at h
      ·exact hs h
    exact key _ 0 (fun e he => Array.mem_toList_iff.1 he) (by simp) hb'
   ·refine h2 j i hj (by omega) ?_
    have hlt' : j < acc.size := by omega
    rw [Array.getD_eq_getD_getElem?, Array.getElem?_push_lt hlt'] at hb
    rw [Array.getD_eq_getD_getElem?, Array.getElem?_eq_getElem hlt']; exact hb

theorem before_closed {ops : Array Oper} {D : Nat → Prop} (hD : Closed ops D) {j i : Nat} (hj : D j) (h : ((Region.before ops).getD j 0).testBit i = true) : D i := by
 unfold Region.before at h
 rw [← Array.foldl_toList] at h
 exact before_acc ops D hD ops.toList #[] (fun k o hk => by simpa using hk) (fun j i _ hlt => by simp at hlt) j i hj h

/-! ### levels -/
def SubL (F : FA) (L L' : Lvl) : Prop := ∀ m b, getL m L = some b → ∃ b', getL m L' = some b' ∧ Cv F b b'
theorem SubL.refl (F : FA) (L : Lvl) : SubL F L L := fun _ b h => ⟨b, h, Cv.refl F b⟩
theorem SubL.trans {F : FA} {a b c : Lvl} (h : SubL F a b) (k : SubL F b c) : SubL F a c := fun e x hx => by
 obtain ⟨y, h1, h2⟩ := h e x hx
 obtain ⟨z, k1, k2⟩ := k e y h1
 exact ⟨z, k1, h2.trans k2⟩

theorem addL_of {F : FA} {m : Nat} {b : B} {mt : B → B → B} : ∀ {L L' : Lvl}, addL F m b mt L = some L' → SubL F L L' ∧ ∃ b', getL m L' = some b' ∧ Cv F b b'
 | [], L', h => by
  cases h
  exact ⟨fun _ _ h => (by cases h), b, by simp [getL], Cv.refl F b⟩
 | (m', b0) :: r, L', h => by
  unfold addL at h
  cases hm : Nat.beq m m' with
  | true =>
   rw [hm] at h
   simp only [cond_true] at h
   obtain ⟨hc, h⟩ := cond_some h
   simp only [Bool.and_eq_true] at hc
   cases h
   have e := Nat.eq_of_beq_eq_true hm
   subst e
   refine ⟨fun m2 b2 h2 => ?_, _, by simp [getL], leB_cv hc.2⟩
   simp only [getL] at h2 ⊢
   cases h3 : Nat.beq m2 m with
   | true => rw [h3] at h2; cases h2; exact ⟨_, rfl, leB_cv hc.1⟩
   | false => rw [h3] at h2; exact ⟨b2, h2, Cv.refl F b2⟩
  | false =>
   rw [hm] at h
   simp only [cond_false] at h
   split at h <;> try cases h
   rename_i r' hr
   obtain ⟨k1, b', k2, k3⟩ := addL_of hr
   refine ⟨fun m2 b2 h2 => ?_, b', by simp only [getL, hm, cond_false]; exact k2, k3⟩
   simp only [getL] at h2 ⊢
   cases h3 : Nat.beq m2 m' with
   | true => rw [h3] at h2; cases h2; exact ⟨_, rfl, Cv.refl F _⟩
   | false => rw [h3] at h2; exact k1 m2 b2 h2

section
variable {τ : TypeId → Option TI} {Sgs : FuncId → List Sg} {F : FA} {ds : List (Option Nat)} {mt : B → B → B}

theorem expand1_of {m : Nat} {b : B} : ∀ {r : List Oper} {i : Nat} {acc acc' : Lvl}, expand1 τ Sgs F ds mt m b i r acc = some acc' → SubL F acc acc' ∧ ∀ k o, r[k]? = some o → m.testBit (i + k) = false → readyC m o = true →
  ∃ b1 b2, stepC τ Sgs F ds b o = some b1 ∧ getL (m ||| 2 ^ (i + k)) acc' = some b2 ∧ Cv F b1 b2
 | [], i, acc, acc', h => by cases h; exact ⟨SubL.refl F acc, fun k o hk => by simp at hk⟩
 | o :: r, i, acc, acc', h => by
  unfold expand1 at h
  cases hc : (m.testBit i || !(readyC m o)) with
  | true =>
   rw [hc] at h
   obtain ⟨h1, h2⟩ := expand1_of (show expand1 τ Sgs F ds mt m b (i + 1) r acc = some acc' from h)
   refine ⟨h1, fun k o' hk hb hr => ?_⟩
   cases k with
   | zero =>
    simp only [List.getElem?_cons_zero, Option.some.injEq] at hk
    subst hk
    rw [Nat.add_zero] at hb
    rw [hb, hr] at hc
    cases hc
   | succ k =>
    rw [show i + (k + 1) = i + 1 + k by omega] at hb ⊢
    exact h2 k o' (by simpa using hk) hb hr
  | false =>
   rw [hc] at h
   simp only [cond_false] at h
   split at h <;> try cases h
   rename_i b1 hb1
   split at h <;> try cases h
   rename_i acc1 ha
   obtain ⟨a1, b2, a2, a3⟩ := addL_of ha
   obtain ⟨h1, h2⟩ := expand1_of h
   refine ⟨a1.trans h1, fun k o' hk hb hr => ?_⟩
   cases k with
   | zero =>
    simp only [List.getElem?_cons_zero, Option.some.injEq] at hk
    subst hk
    rw [Nat.add_zero]
    obtain ⟨b3, q1, q2⟩ := h1 _ b2 a2
    exact ⟨b1, b3, hb1, q1, a3.trans q2⟩
   | succ k =>
    rw [show i + (k + 1) = i + 1 + k by omega] at hb ⊢
    exact h2 k o' (by simpa using hk) hb hr

theorem expand_of {os : List Oper} : ∀ {L acc L' : Lvl}, expand τ Sgs F ds mt os L acc = some L' → SubL F acc L' ∧ ∀ m b, getL m L = some b → ∀ (k : Nat) o, os[k]? = some o → m.testBit k = false → readyC m o = true →
  ∃ b1 b2, stepC τ Sgs F ds b o = some b1 ∧ getL (m ||| 2 ^ k) L' = some b2 ∧ Cv F b1 b2
 | [], acc, L', h => by cases h; exact ⟨SubL.refl F acc, fun m b h => by cases h⟩
 | (m', b0) :: r, acc, L', h => by
  unfold expand at h
  split at h <;> try cases h
  rename_i acc1 ha
  obtain ⟨a1, a2⟩ := expand1_of ha
  obtain ⟨h1, h2⟩ := expand_of h
  refine ⟨a1.trans h1, fun m b hm k o hk hb hr => ?_⟩
  simp only [getL] at hm
  cases h3 : Nat.beq m m' with
  | true =>
   rw [h3] at hm
   cases hm
   have e := Nat.eq_of_beq_eq_true h3
   subst e
   obtain ⟨b1, b2, q1, q2, q3⟩ := a2 k o hk (by rw [Nat.zero_add]; exact hb) hr
   rw [Nat.zero_add] at q2
   obtain ⟨b3, q4, q5⟩ := h1 _ b2 q2
   exact ⟨b1, b3, q1, q4, q3.trans q5⟩
  | false =>
   rw [h3] at hm
   exact h2 m b hm k o hk hb hr
end

section
variable {P : Program} {τ : TypeId → Option TI} {Sgs : FuncId → List Sg} {F : FA} {x x1 x2 : D} {o : Oper} {b b1 : B}

/-- A step. -/
theorem SD.step (hT : Tables P τ) (hA : Ag F b x) {ops : Array Oper} {i : Nat} (hi : ops[i]? = some o) (h : SD P τ Sgs F (ops.toList.map (·.dst)) o x x1) (hc : stepC τ Sgs F (ops.toList.map (·.dst)) b o = some b1) :
  Ag F b1 x1 ∧ ∀ g0 w0 (Q : Exit → Act → World → Prop) (K : Act → World → Prop) a w, Sim g0 w0 (b.S F.n x) a w → (∀ v w', Sim g0 w0 (b1.S F.n x1) (a.put o.dst v) w' → K (a.put o.dst v) w') → wpOp P ops Q i K a w := by
 obtain ⟨b0, hr, e1, hgb, hun⟩ := stepC_of hc
 have fin : ∀ (t : Bool), guardD (ops.toList.map (·.dst)) x o.guard = some t → (∀ g0 w0 (Q : Exit → Act → World → Prop) (K : Act → World → Prop) a w, Sim g0 w0 (b.S F.n x) a w → (∀ v w', Sim g0 w0 (b1.S F.n x1) (a.put o.dst v) w' → K (a.put o.dst v) w') → if t then o.wp P a w K Q else K (a.put o.dst undef) w) →
   ∀ g0 w0 (Q : Exit → Act → World → Prop) (K : Act → World → Prop) a w, Sim g0 w0 (b.S F.n x) a w → (∀ v w', Sim g0 w0 (b1.S F.n x1) (a.put o.dst v) w' → K (a.put o.dst v) w') → wpOp P ops Q i K a w := fun t hg hone g0 w0 Q K a w hs hK => by
  have hw : Region.wanted o (yielded ops a.tmps) = t := by
   obtain ⟨g, hsg⟩ := hs
   exact wanted_guard (F := F) hsg hgb hg
  exact wpOp_of hi t hw (hone g0 w0 Q K a w hs hK)
 rcases h with ⟨hg, rfl⟩ | ⟨hg, h1⟩ | ⟨hg, c, v, f, caps, ob, ob', r, nw, ho, hcal, hni, hx, hth, hob, hC, hsh, rfl⟩ | ⟨hg, c, v, f, r, t, xs, l, p, x0, es, es', ho, hcal, hio, hx, hth, hargs, hal, hat, hnav, hC, hsh, rfl⟩
 ·have hgn : o.guard ≠ none := fun e => by rw [e] at hg; cases hg
  obtain ⟨hA1, hsk⟩ := skip_S hA (hun hgn)
  rw [← e1] at hA1 hsk
  exact ⟨hA1, fin false hg (fun g0 w0 Q K a w hs hK => hK undef w (hsk _ _ _ _ hs))⟩
 ·have hr' : cOp τ F b o = some b0 := by
   unfold runC at hr
   rw [dOp_callee h1] at hr
   exact hr
  have hop := op_S hT hA h1 hr'
  obtain ⟨hA1, cs⟩ := ((frz_cv (F := F) (fzL F b0 o.dst) b0).trans (nrm_cv F _)) x1 hop.ag
  rw [← e1] at hA1 cs
  exact ⟨hA1, fin true hg (fun g0 w0 Q K a w hs hK => (hop.ok g0 w0).w Q K a w hs (fun v w' hs' => hK v w' (cs _ _ _ _ hs')))⟩
 ·have hr' : callC Sgs F b o c v = some b0 := by
   unfold runC at hr
   rw [calleeV_of ho hcal] at hr
   simp only [hni, cond_false] at hr
   exact hr
  unfold callC at hr'
  split at hr' <;> try cases hr'
  rename_i f' caps' hshp
  obtain ⟨sg, hsg, hcc⟩ := firstC_of hr'
  obtain ⟨hn, hcc⟩ := cond_some hcc
  simp only [Bool.and_eq_true] at hn
  have hkv : knows b v = true := by
   have hcc := hcc
   unfold cCall at hcc
   obtain ⟨hq, _⟩ := cond_some hcc
   simp only [Bool.and_eq_true] at hq
   exact hq.1.1.1.1.1.1.1.1.1.1
  have hfc : f' = f ∧ caps' = caps := by
   rcases sh_of hA hkv hx (by simp) with hf | ⟨_, hs⟩
   ·rw [hshp] at hf
    simp only [Own.fits, fitsW, Bool.and_eq_true] at hf
    exact ⟨(Nat.eq_of_beq_eq_true hf.1).symm, (of_decide_eq_true hf.2).symm⟩
   ·rw [hshp] at hs
    cases hs
    exact ⟨rfl, rfl⟩
  obtain ⟨rfl, rfl⟩ := hfc
  have hlen : (inV x c caps' (osOf F c v)).length = c.args.toList.length + caps'.length := by simp [inV]
  have hol : ob.length = (osOf F c v).length := by have := congrArg List.length hob; simpa using this
  have hnp : sg.np = (inV x c caps' (osOf F c v)).length := by rw [hlen]; exact Nat.eq_of_beq_eq_true hn.1
  have hC := hC sg hsg hnp (by rw [hol]; exact Nat.eq_of_beq_eq_true hn.2)
  obtain ⟨hA0, hop⟩ := call_S (P := P) hA ho hcal hx hC rfl hob hnp hth hsh hcc
  obtain ⟨hA1, cs⟩ := ((frz_cv (F := F) (fzL F b0 o.dst) b0).trans (nrm_cv F _)) _ hA0
  rw [← e1] at hA1 cs
  exact ⟨hA1, fin true hg (fun g0 w0 Q K a w hs hK => hop g0 w0 Q K a w hs (fun v w' hs' => hK v w' (cs _ _ _ _ hs')))⟩
 ·have hr' : ioC Sgs F b o c v = some b0 := by
   unfold runC at hr
   rw [calleeV_of ho hcal] at hr
   simp only [hio, cond_true] at hr
   exact hr
  unfold ioC at hr'
  split at hr' <;> try cases hr'
  rename_i f' caps' hshp
  obtain ⟨sg, hsg, hcc⟩ := firstC_of hr'
  obtain ⟨hn, hcc⟩ := cond_some hcc
  simp only [Bool.and_eq_true] at hn
  have hkv : knows b v = true := by
   have hcc := hcc
   unfold cIo at hcc
   rw [hargs] at hcc
   simp only at hcc
   split at hcc <;> try cases hcc
   obtain ⟨hq, _⟩ := cond_some hcc
   simp only [Bool.and_eq_true] at hq
   exact hq.1.1.1.1.1.1.1.1.1.1.1.1.1.1.1.1
  have hfc : f' = f := by
   rcases sh_of hA hkv hx (by simp) with hf | ⟨_, hs⟩
   ·rw [hshp] at hf
    simp only [Own.fits, fitsW, Bool.and_eq_true] at hf
    exact (Nat.eq_of_beq_eq_true hf.1).symm
   ·rw [hshp] at hs
    cases hs
    rfl
  subst hfc
  have hlen : (inV x c [] []).length = c.args.toList.length := by simp [inV]
  have hnp : sg.np = (inV x c [] []).length := by rw [hlen]; exact Nat.eq_of_beq_eq_true hn.1.1
  have hC := hC sg hsg hnp (Nat.eq_of_beq_eq_true hn.2)
  obtain ⟨hA0, hop⟩ := callIo_S (P := P) hA ho hcal hx hC rfl hnp hth hargs hal hat hnav hsh hcc
  obtain ⟨hA1, cs⟩ := ((frz_cv (F := F) (fzL F b0 o.dst) b0).trans (nrm_cv F _)) _ hA0
  rw [← e1] at hA1 cs
  exact ⟨hA1, fin true hg (fun g0 w0 Q K a w hs hK => hop g0 w0 Q K a w hs (fun v w' hs' => hK v w' (cs _ _ _ _ hs')))⟩

theorem filter_set {ops : Array Oper} {listed : Array Bool} {i : Nat} (hsz : listed.size = ops.size) (hi : i < ops.size) (hun : listed.getD i true = false) : ∃ A C : List Nat, (List.range ops.size).filter (fun j => !listed.getD j true) = A ++ i :: C ∧
  (List.range ops.size).filter (fun j => !(listed.setIfInBounds i true).getD j true) = A ++ C ∧ ∀ j ∈ A, j < i ∧ listed.getD j true = false := by
 have hr : List.range ops.size = List.range' 0 i ++ i :: List.range' (i + 1) (ops.size - i - 1) := by
  rw [List.range_eq_range', show ops.size = i + (1 + (ops.size - i - 1)) by omega, ← List.range'_append_1, ← List.range'_append_1]
  simp
 have h1 : ∀ j, j ≠ i → (listed.setIfInBounds i true).getD j true = listed.getD j true := fun j hj => getD_set_ne true (Ne.symm hj)
 have hset : (listed.setIfInBounds i true).getD i true = true := by
  have : i < listed.size := by omega
  simp [Array.getD, this]
 refine ⟨(List.range' 0 i).filter (fun j => !listed.getD j true), (List.range' (i + 1) (ops.size - i - 1)).filter (fun j => !listed.getD j true), ?_, ?_, fun j hj => ?_⟩
 ·rw [hr, List.filter_append, List.filter_cons_of_pos (by simp [hun])]
 ·rw [hr, List.filter_append, List.filter_cons_of_neg (by simp [hset])]
  congr 1
  ·exact List.filter_congr fun j hj => by
    have := List.mem_range'_1.1 hj
    rw [h1 j (by omega)]
  ·exact List.filter_congr fun j hj => by
    have := List.mem_range'_1.1 hj
    rw [h1 j (by omega)]
 ·rw [List.mem_filter] at hj
  have := List.mem_range'_1.1 hj.1
  exact ⟨by omega, by simpa using hj.2⟩

theorem any_ok (hT : Tables P τ) {ops : Array Oper} (hO : orderOk F (ops.toList.map (·.dst)) ops = true) {mt : B → B → B} {mf : Nat} {bf : B} {xn : D} {g0 : G} {w0 : World} {Q : Exit → Act → World → Prop} {a0 : Act}
  (hQ : ∀ a w, Ag F bf xn → Sim g0 w0 (bf.S F.n xn) a w → (∀ z, noDo z ops.toList = true → a.tmps.getD z undef = a0.tmps.getD z undef) → Q .normal a w) :
  ∀ (k : Nat) (listed : Array Bool) (m : Nat) (L : Lvl) (b : B) (x : D) (a : Act) (w : World), levels τ Sgs F (ops.toList.map (·.dst)) mt ops.toList k L = some [(mf, bf)] → getL m L = some b → listed.size = ops.size → (∀ i, i < ops.size → m.testBit i = listed.getD i false) →
   Closed ops (fun j => listed.getD j false = true) → (List.range ops.size).countP (fun i => !listed.getD i true) = k → Ag F b x → RunF P τ Sgs F (ops.toList.map (·.dst)) ops ((List.range ops.size).filter fun j => !listed.getD j true) x xn → Sim g0 w0 (b.S F.n x) a w →
   (∀ z, noDo z ops.toList = true → a.tmps.getD z undef = a0.tmps.getD z undef) → wpAny P .any ops Q k listed a w := by
 simp only [orderOk, Bool.and_eq_true, List.all_eq_true, List.mem_range] at hO
 obtain ⟨hedge, hpair⟩ := hO
 have hgd : ∀ (listed : Array Bool) j, listed.size = ops.size → j < ops.size → listed.getD j true = listed.getD j false := by
  intro listed j h1 h2
  have : j < listed.size := by omega
  simp [Array.getD, this]
 have hall : ∀ listed : Array Bool, listed.size = ops.size → Region.ready .any ops listed = [] → ∀ j, j < ops.size → listed.getD j false = true := by
  intro listed hsz hr j
  induction j using Nat.strongRecOn with
  | _ j ih =>
   intro hj
   rcases Bool.eq_false_or_eq_true (listed.getD j false) with h | h
   ·exact h
   ·exfalso
    have : j ∈ Region.ready .any ops listed := by
     rw [mem_ready]
     refine ⟨by rw [hgd listed j hsz hj]; exact h, ops[j], Array.getElem?_eq_getElem hj, fun e he hb => ?_⟩
     have h1 := hedge j hj
     rw [Array.getElem?_eq_getElem hj] at h1
     simp only [Array.all_eq_true_iff_forall_mem] at h1
     have h2 := h1 e he
     simp only [hb, Bool.not_true, Bool.false_or] at h2
     have h3 : e.on < j := blt_of h2
     exact ih e.on h3 (by omega)
    rw [hr] at this; cases this
 intro k
 induction k with
 | zero =>
  intro listed m L b x a w hL hm hsz hbit hcl hcount hA hrun hs hz
  have hlist : ∀ j, j < ops.size → listed.getD j true = true := fun j hj => by
   rw [List.countP_eq_zero] at hcount
   have := hcount j (List.mem_range.2 hj)
   simpa using this
  have hr : Region.ready .any ops listed = [] := by
   apply List.eq_nil_iff_forall_not_mem.2
   intro j hj
   obtain ⟨h1, o, ho, _⟩ := mem_ready.1 hj
   rw [hlist j (Array.getElem?_eq_some_iff.1 ho).1] at h1; cases h1
  refine ⟨hr, ?_⟩
  have hf : (List.range ops.size).filter (fun j => !listed.getD j true) = [] := List.filter_eq_nil_iff.2 fun j hj => by rw [hlist j (List.mem_range.1 hj)]; simp
  rw [hf] at hrun
  have hx : x = xn := hrun
  subst hx
  cases hL
  simp only [getL] at hm
  cases h3 : Nat.beq m mf with
  | true => rw [h3] at hm; cases hm; exact hQ a w hA hs hz
  | false => rw [h3] at hm; cases hm
 | succ k ih =>
  intro listed m L b x a w hL hm hsz hbit hcl hcount hA hrun hs hz
  unfold levels at hL
  split at hL <;> try cases hL
  rename_i L' hL'
  refine ⟨fun hr => ?_, fun i hi => ?_⟩
  ·exfalso
   have : (List.range ops.size).countP (fun i => !listed.getD i true) = 0 := List.countP_eq_zero.2 fun j hj => by
    rw [hgd listed j hsz (List.mem_range.1 hj), hall listed hsz hr j (List.mem_range.1 hj)]; simp
   omega
  ·obtain ⟨hun, o, ho, hafter⟩ := mem_ready.1 hi
   have hlt : i < ops.size := (Array.getElem?_eq_some_iff.1 ho).1
   have hun' : listed.getD i false = false := by rw [← hgd listed i hsz hlt]; exact hun
   obtain ⟨A, C, f1, f2, f3⟩ := filter_set hsz hlt hun
   have hcl' : Closed ops (fun j => (listed.setIfInBounds i true).getD j false = true) := by
    intro j oj hoj hj e he hb
    by_cases hij : i = j
    ·subst hij
     rw [ho] at hoj; cases hoj
     exact getD_set_true (hafter e he hb)
    ·rw [getD_set_ne false hij] at hj
     exact getD_set_true (hcl j oj hoj hj e he hb)
   have hset : (listed.setIfInBounds i true).getD i false = true := by
    have : i < listed.size := by omega
    simp [Array.getD, this]
   rw [f1] at hrun
   obtain ⟨hfo, x1, hsd, hrun1⟩ := hrun.front ho (fun j hj a' ha' => by
    obtain ⟨j1, j2⟩ := f3 j hj
    have h1 := hpair i hlt j j1
    rw [ha', ho] at h1
    simp only [Bool.or_eq_true] at h1
    refine h1.resolve_left (fun h2 => ?_)
    have := before_closed (D := fun j => (listed.setIfInBounds i true).getD j false = true) hcl' hset h2
    rw [getD_set_ne false (by omega)] at this
    rw [hgd listed j hsz (by omega)] at j2
    rw [j2] at this; cases this)
   have hrdy : readyC m o = true := by
    simp only [readyC, List.all_eq_true]
    intro e he
    cases hb : Region.binds .any e with
    | false => rfl
    | true =>
     have h1 := hafter e (Array.mem_toList_iff.1 he) hb
     have h2 := hedge i hlt
     rw [ho] at h2
     simp only [Array.all_eq_true_iff_forall_mem] at h2
     have h3 := h2 e (Array.mem_toList_iff.1 he)
     simp only [hb, Bool.not_true, Bool.false_or] at h3
     have h4 := blt_of h3
     simp only [Bool.not_true, Bool.false_or]
     rw [hbit e.on (by omega)]; exact h1
   obtain ⟨b1, b2, s1, s2, cv⟩ := (expand_of hL').2 m b hm i o (by rw [Array.getElem?_toList]; exact ho) (by rw [hbit i hlt]; exact hun') hrdy
   obtain ⟨hA1, hw1⟩ := hsd.step hT hA ho s1
   obtain ⟨hA2, cs⟩ := cv x1 hA1
   refine hw1 g0 w0 Q _ a w hs (fun v w' hs' => ih (listed.setIfInBounds i true) (m ||| 2 ^ i) L' b2 x1 _ w' hL s2 (by simpa using hsz) (fun j hj => ?_) hcl' ?_ hA2 (by rw [f2]; exact hrun1) (cs _ _ _ _ hs') (fun z hno => ?_))
   ·rw [Nat.testBit_or, Nat.testBit_two_pow, hbit j hj]
    by_cases hij : i = j
    ·subst hij; rw [hset]; simp
    ·rw [getD_set_ne false hij]; simp [hij]
   ·rw [List.countP_eq_length_filter] at hcount ⊢
    rw [f1] at hcount
    rw [f2]
    simp only [List.length_append, List.length_cons] at hcount ⊢
    omega
   ·have hne : o.dst ≠ some z := by
     have key : ∀ l : List Oper, noDo z l = true → ∀ o ∈ l, o.dst ≠ some z := by
      intro l
      induction l with
      | nil => intro _ o h; cases h
      | cons p r ihl =>
       intro h o hm
       simp only [noDo, Bool.and_eq_true, Bool.not_eq_true', decide_eq_false_iff_not] at h
       cases hm with
       | head => exact h.1
       | tail _ hm => exact ihl h.2 o hm
     exact key ops.toList hno o (Array.mem_toList_iff.2 (Array.mem_of_getElem? ho))
    rw [put_other hne]; exact hz z hno

theorem levels_ag (hT : Tables P τ) {ops : Array Oper} (hO : orderOk F (ops.toList.map (·.dst)) ops = true) {mt : B → B → B} {mf : Nat} {bf : B} {xn : D} :
  ∀ (k j m : Nat) (L : Lvl) (b : B) (x : D), j + k = ops.size → levels τ Sgs F (ops.toList.map (·.dst)) mt ops.toList k L = some [(mf, bf)] → getL m L = some b → (∀ i, i < ops.size → m.testBit i = decide (i < j)) → Ag F b x →
   RunF P τ Sgs F (ops.toList.map (·.dst)) ops (List.range' j k) x xn → Ag F bf xn := by
 simp only [orderOk, Bool.and_eq_true, List.all_eq_true, List.mem_range] at hO
 obtain ⟨hedge, _⟩ := hO
 intro k
 induction k with
 | zero =>
  intro j m L b x hjk hL hm hbit hA hrun
  have hx : x = xn := hrun
  subst hx
  cases hL
  simp only [getL] at hm
  cases h3 : Nat.beq m mf with
  | true => rw [h3] at hm; cases hm; exact hA
  | false => rw [h3] at hm; cases hm
 | succ k ih =>
  intro j m L b x hjk hL hm hbit hA hrun
  unfold levels at hL
  split at hL <;> try cases hL
  rename_i L' hL'
  rw [List.range'_succ] at hrun
  obtain ⟨o, x1, ho, _, hsd, hrun1⟩ := hrun
  have hlt : j < ops.size := by omega
  have hrdy : readyC m o = true := by
   simp only [readyC, List.all_eq_true]
   intro e he
   have h2 := hedge j hlt
   rw [ho] at h2
   simp only [Array.all_eq_true_iff_forall_mem] at h2
   have h3 := h2 e (Array.mem_toList_iff.1 he)
   cases hb : Region.binds .any e with
   | false => rfl
   | true =>
    simp only [hb, Bool.not_true, Bool.false_or] at h3
    have h4 := blt_of h3
    simp only [Bool.not_true, Bool.false_or]
    rw [hbit e.on (by omega)]; exact decide_eq_true h4
  obtain ⟨b1, b2, s1, s2, cv⟩ := (expand_of hL').2 m b hm j o (by rw [Array.getElem?_toList]; exact ho) (by rw [hbit j hlt]; simp) hrdy
  obtain ⟨hA1, _⟩ := hsd.step hT hA ho s1
  refine ih (j + 1) (m ||| 2 ^ j) L' b2 x1 (by omega) hL s2 (fun i hi => ?_) (cv x1 hA1).1 hrun1
  rw [Nat.testBit_or, Nat.testBit_two_pow, hbit i hi]
  by_cases hij : i = j
  ·subst hij; simp
  ·have : (decide (i < j + 1)) = decide (i < j) := by
    by_cases h : i < j
    ·rw [decide_eq_true h, decide_eq_true (by omega)]
    ·rw [decide_eq_false h, decide_eq_false (by omega)]
   rw [this]
   simp; omega

theorem opsK_opsC {ds : List (Option Nat)} : ∀ {os : List Oper} {b b2 : B}, opsK τ Sgs F ds b os = some b2 → opsC τ Sgs F ds b os = some b2
 | [], b, b2, h => h
 | o :: r, b, b2, h => by
  unfold opsK at h
  obtain ⟨_, h⟩ := cond_some h
  unfold opsC
  split at h <;> try cases h
  rename_i b1 h1
  first
   | (rw [h1]; exact opsK_opsC h)
   | exact opsK_opsC h
theorem opsK_cons {ds : List (Option Nat)} {os : List Oper} {b b2 : B} (h : opsK τ Sgs F ds b (o :: os) = some b2) : o.op.operands.toList.all (knows b) = true ∧ ∃ b1, stepC τ Sgs F ds b o = some b1 ∧ opsK τ Sgs F ds b1 os = some b2 := by
 unfold opsK at h
 obtain ⟨h0, h⟩ := cond_some h
 split at h <;> try cases h
 rename_i b1 h1
 exact ⟨h0, b1, h1, h⟩
theorem FitO.of (hA : Ag F b x) (h : o.op.operands.toList.all (knows b) = true) : FitO F x o := fun v hv => by
 have := List.all_eq_true.1 h v (by simpa using hv)
 cases v with
 | tmp t => exact hA.sl t this
 | _ => trivial
end
end Go.Own

/- Code's runs are what their data tell: the theorem. -/
namespace Go.Own
open Go.RowKit

section
variable {P : Program} {τ : TypeId → Option TI} {An : FuncId → FA} {Sgs : FuncId → List Sg}

theorem getElem_of_drop {ops : Array Oper} {i : Nat} {o : Oper} {r : List Oper} (h : ops.toList.drop i = o :: r) : ops[i]? = some o ∧ ops.toList.drop (i + 1) = r := by
 have h1 : (ops.toList.drop i)[0]? = some o := by rw [h]; rfl
 rw [List.getElem?_drop, Nat.add_zero, Array.getElem?_toList] at h1
 refine ⟨h1, ?_⟩
 have : (ops.toList.drop i).drop 1 = r := by rw [h]; rfl
 rw [List.drop_drop] at this
 exact this

/-- Behind one operation, the rest. -/
theorem step_rest (hT : Tables P τ) {F : FA} {ops : Array Oper} {i : Nat} {o : Oper} {r : List Oper} {x x1 x2 : D} {b b' : B} (hdrop : ops.toList.drop i = o :: r) (hA : Ag F b x) (hsd : SD P τ Sgs F (ops.toList.map (·.dst)) o x x1) (hb : opsC τ Sgs F (ops.toList.map (·.dst)) b (o :: r) = some b')
  (ih : Mot P τ Sgs (.ops F (ops.toList.map (·.dst)) r x1 x2)) :
  Ag F b' x2 ∧ (∀ g0 w0 (Q : Exit → Act → World → Prop) a w, Sim g0 w0 (b.S F.n x) a w → (∀ a' w', Sim g0 w0 (b'.S F.n x2) a' w' → (∀ z, noDo z (o :: r) = true → a'.tmps.getD z undef = a.tmps.getD z undef) → Q .normal a' w') → wpOps P ops Q (List.range' i (o :: r).length) a w) ∧
   ∀ b2, opsK τ Sgs F (ops.toList.map (·.dst)) b (o :: r) = some b2 → RunF P τ Sgs F (ops.toList.map (·.dst)) ops (List.range' i (o :: r).length) x x2 := by
 obtain ⟨hi, hdrop'⟩ := getElem_of_drop hdrop
 simp only [opsC] at hb
 split at hb <;> try cases hb
 rename_i b1 hb1
 obtain ⟨hA1, hw1⟩ := hsd.step hT hA hi hb1
 obtain ⟨hA2, hw2, hr2⟩ := ih ops (i + 1) hdrop' rfl b1 b' hb hA1
 refine ⟨hA2, fun g0 w0 Q a w hs hQ => ?_, fun b2 hK => ?_⟩
 ·rw [List.length_cons, List.range'_succ, wpOps_cons]
  refine hw1 g0 w0 Q _ a w hs (fun v w' hs' => hw2 g0 w0 Q _ w' hs' (fun a' w'' hs'' hz => hQ a' w'' hs'' (fun z hno => ?_)))
  simp only [noDo, Bool.and_eq_true, Bool.not_eq_true', decide_eq_false_iff_not] at hno
  rw [hz z hno.2]
  exact put_other hno.1
 ·obtain ⟨h0, b1', h1, h2⟩ := opsK_cons hK
  rw [hb1] at h1; cases h1
  rw [List.length_cons, List.range'_succ]
  exact ⟨o, x1, hi, FitO.of hA h0, hsd, hr2 b2 h2⟩

theorem exit_then {K : Act → World → Prop} {Q : Exit → Act → World → Prop} {e : Ek} (he : e ≠ .n) {a : Act} {w : World} : Exit.then K Q e.exit a w = Q e.exit a w := by
 cases e with
 | n => exact absurd rfl he
 | r => rfl
 | e i => rfl

theorem exit_block {Q : Exit → Act → World → Prop} {id : Nat} {e : Ek} {a : Act} {w : World} (h : Q (inBlk id e).exit a w) : Exit.inBlock id Q e.exit a w := by
 unfold inBlk at h
 cases e with
 | n => rw [if_neg (by simp)] at h; exact h
 | r => rw [if_neg (by simp)] at h; exact h
 | e i =>
  by_cases hi : i = id
  ·subst hi
   rw [if_pos rfl] at h
   simp only [Exit.inBlock, Ek.exit, if_true]
   exact h
  ·rw [if_neg (by simpa using hi)] at h
   simp only [Exit.inBlock, Ek.exit, if_neg hi]
   exact h

theorem shapesIn_of {F : FA} : ∀ {l : List V} {i0 : Nat}, shapesIn F i0 l = true → ∀ {i : Nat} {v : V}, l[i]? = some v → fits v (F.shOf (i0 + i)) = true
 | [], _, _, i, v, h => by simp at h
 | p :: r, i0, h, 0, v, h2 => by
  simp only [shapesIn, Bool.and_eq_true] at h
  simp only [List.getElem?_cons_zero, Option.some.injEq] at h2
  subst h2; exact h.1
 | p :: r, i0, h, i + 1, v, h2 => by
  simp only [shapesIn, Bool.and_eq_true] at h
  simp only [List.getElem?_cons_succ] at h2
  have := shapesIn_of h.2 h2
  rwa [show i0 + 1 + i = i0 + (i + 1) by omega] at this
theorem shapesOb_of {F : FA} : ∀ {l : List (List T)} {i0 : Nat}, shapesOb F i0 l = true → ∀ {i : Nat} {v : List T}, l[i]? = some v → confs v (F.obOf (par + (i0 + i))) = true
 | [], _, _, i, v, h => by simp at h
 | p :: r, i0, h, 0, v, h2 => by
  simp only [shapesOb, Bool.and_eq_true] at h
  simp only [List.getElem?_cons_zero, Option.some.injEq] at h2
  subst h2; exact h.1
 | p :: r, i0, h, i + 1, v, h2 => by
  simp only [shapesOb, Bool.and_eq_true] at h
  simp only [List.getElem?_cons_succ] at h2
  have := shapesOb_of h.2 h2
  rwa [show i0 + 1 + i = i0 + (i + 1) by omega] at this
theorem obsOut_of {x : D} : ∀ {l l' : List (List T)} {i0 : Nat}, obsOut x i0 l = some l' → l'.length = l.length ∧ ∀ j, j < l.length → l'[j]? = x.ob (par + (i0 + j))
 | [], l', i0, h => by cases h; exact ⟨rfl, fun j hj => by simp at hj⟩
 | p :: r, l', i0, h => by
  unfold obsOut at h
  split at h <;> try cases h
  rename_i cs css h1 h2
  obtain ⟨q1, q2⟩ := obsOut_of h2
  refine ⟨by simp [q1], fun j hj => ?_⟩
  cases j with
  | zero => simp [h1]
  | succ j =>
   have := q2 j (by simpa using hj)
   simp only [List.getElem?_cons_succ]
   rw [this, show i0 + 1 + j = i0 + (j + 1) by omega]

theorem big_sound (hM : P.follows .mixedOrders = true) (hT : Tables P τ) (hS : ∀ f sg, sg ∈ Sgs f → ∀ fn c, P.funcs[f]? = some fn → fn.body = some c → fnC τ An Sgs f sg fn c = true) {J : Jd} (h : Big P τ An J) : Mot P τ Sgs J := by
 induction h with
 | skip F x => exact fun b outs hb hA => by cases hb; exact ⟨b, 0, rfl, hA, fun g0 w0 Q a w hs hQ => ⟨wp_skip (hQ a w hs (fun _ _ => rfl)), fun c' e => by cases e⟩⟩
 | label F l x => exact fun b outs hb hA => by cases hb; exact ⟨b, 0, rfl, hA, fun g0 w0 Q a w hs hQ => ⟨wp_label (hQ a w hs (fun _ _ => rfl)), fun c' e => by cases e⟩⟩
 | exit F i x =>
  intro b outs hb hA
  cases hb
  refine ⟨b, 0, by simp [getE, ekeq_refl], hA, fun g0 w0 Q a w hs hQ => ⟨wp_exit (hQ a w hs (fun _ _ => rfl)), fun c' e => by cases e⟩⟩
 | ret F x => exact fun b outs hb hA => by cases hb; exact ⟨b, 0, rfl, hA, fun g0 w0 Q a w hs hQ => ⟨wp_ret (hQ a w hs (fun _ _ => rfl)), fun c' e => by cases e⟩⟩
 | @seqN F c d x x1 x2 e h1 h2 ih1 ih2 =>
  intro b outs hb hA
  simp only [bodyC] at hb
  split at hb <;> try cases hb
  rename_i o1 ho1
  obtain ⟨b1, k1, g1, hA1, w1⟩ := ih1 b o1 ho1 hA
  rw [g1] at hb
  simp only at hb
  split at hb <;> try cases hb
  rename_i o2 ho2
  obtain ⟨b2, k2, g2, hA2, w2⟩ := ih2 b1 o2 ho2 hA1
  obtain ⟨m1, _⟩ := mergeE_of hb
  obtain ⟨b3, g3, cv⟩ := m1 e b2 g2
  obtain ⟨hA3, cs⟩ := cv x2 hA2
  refine ⟨b3, 0, g3, hA3, fun g0 w0 Q a w hs hQ => ⟨wp_seq (w1 g0 w0 _ a w hs (fun a' w' hs' hz => ?_)).1, fun c' e => by cases e⟩⟩
  refine (w2 g0 w0 Q a' w' hs' (fun a'' w'' hs'' hz2 => hQ a'' w'' (cs _ _ _ _ hs'') (fun z hno => ?_))).1
  simp only [noD, Bool.and_eq_true] at hno
  rw [hz2 z hno.2, hz z hno.1]
 | @seqX F c d x x1 e h1 he ih1 =>
  intro b outs hb hA
  simp only [bodyC] at hb
  split at hb <;> try cases hb
  rename_i o1 ho1
  obtain ⟨b1, k1, g1, hA1, w1⟩ := ih1 b o1 ho1 hA
  have key : ∀ b', getE e outs = some b' → Ag F b' x1 → (∀ g0 w0 a w, Sim g0 w0 (b1.S F.n x1) a w → Sim g0 w0 (b'.S F.n x1) a w) → ∃ (b' : B) (k : Nat), getE e outs = some b' ∧ Ag F b' x1 ∧ ∀ g0 w0 (Q : Exit → Act → World → Prop) a w, Sim g0 w0 (b.S F.n x) a w →
   (∀ a' w', Sim g0 w0 (b'.S F.n x1) a' w' → (∀ z, noD z (.seq c d) = true → a'.tmps.getD z undef = a.tmps.getD z undef) → Q e.exit a' w') → (Code.seq c d).wp P Q a w ∧ ∀ c', Code.seq c d = .loop c' → Code.rounds P c' Q k a w := fun b' hg hA' hcv =>
   ⟨b', 0, hg, hA', fun g0 w0 Q a w hs hQ => ⟨wp_seq (w1 g0 w0 _ a w hs (fun a' w' hs' hz => by
    rw [exit_then he]
    refine hQ a' w' (hcv _ _ _ _ hs') (fun z hno => ?_)
    simp only [noD, Bool.and_eq_true] at hno
    exact hz z hno.1)).1, fun c' e => by cases e⟩⟩
  cases hn : getE .n o1 with
  | none =>
   rw [hn] at hb
   cases hb
   exact key b1 g1 hA1 (fun _ _ _ _ h => h)
  | some bn =>
   rw [hn] at hb
   simp only at hb
   split at hb <;> try cases hb
   rename_i o2 ho2
   obtain ⟨_, m2⟩ := mergeE_of hb
   obtain ⟨b3, g3, cv⟩ := m2 e b1 (by rw [getE_drop he]; exact g1)
   obtain ⟨hA3, cs⟩ := cv x1 hA1
   exact key b3 g3 hA3 cs
 | @cond F cnd c d x x1 e t hc h1 ih1 =>
  intro b outs hb hA
  simp only [bodyC] at hb
  obtain ⟨hk, hb⟩ := cond_some hb
  split at hb <;> try cases hb
  rename_i o1 o2 ho1 ho2
  obtain ⟨m1, m2⟩ := mergeE_of hb
  have hcv : ∀ {g0 : G} {w0 : World} {a : Act} {w : World}, Sim g0 w0 (b.S F.n x) a w → a.eval cnd = .bool t := fun hs => by
   obtain ⟨g, hsg⟩ := hs
   have := hsg.ev_rv cnd (fun _ _ => .none)
   rw [S_ev hk, hc] at this
   exact rv_bool this
  cases t with
  | true =>
   obtain ⟨b1, k1, g1, hA1, w1⟩ := ih1 b o1 ho1 hA
   obtain ⟨b3, g3, cv⟩ := m2 e b1 g1
   obtain ⟨hA3, cs⟩ := cv x1 hA1
   refine ⟨b3, 0, g3, hA3, fun g0 w0 Q a w hs hQ => ⟨wp_cond_true (hcv hs) (w1 g0 w0 Q a w hs (fun a' w' hs' hz => hQ a' w' (cs _ _ _ _ hs') (fun z hno => ?_))).1, fun c' e => by cases e⟩⟩
   simp only [noD, Bool.and_eq_true] at hno
   exact hz z hno.1
  | false =>
   obtain ⟨b1, k1, g1, hA1, w1⟩ := ih1 b o2 ho2 hA
   obtain ⟨b3, g3, cv⟩ := m1 e b1 g1
   obtain ⟨hA3, cs⟩ := cv x1 hA1
   refine ⟨b3, 0, g3, hA3, fun g0 w0 Q a w hs hQ => ⟨wp_cond_false (hcv hs) (w1 g0 w0 Q a w hs (fun a' w' hs' hz => hQ a' w' (cs _ _ _ _ hs') (fun z hno => ?_))).1, fun c' e => by cases e⟩⟩
   simp only [noD, Bool.and_eq_true] at hno
   exact hz z hno.2
 | @block F id c x x1 e h1 ih1 =>
  intro b outs hb hA
  simp only [bodyC] at hb
  split at hb <;> try cases hb
  rename_i o1 ho1
  obtain ⟨b1, k1, g1, hA1, w1⟩ := ih1 b o1 ho1 hA
  have key : ∀ b', getE (inBlk id e) outs = some b' → Cv F b1 b' → ∃ (b' : B) (k : Nat), getE (inBlk id e) outs = some b' ∧ Ag F b' x1 ∧ ∀ g0 w0 (Q : Exit → Act → World → Prop) a w, Sim g0 w0 (b.S F.n x) a w →
   (∀ a' w', Sim g0 w0 (b'.S F.n x1) a' w' → (∀ z, noD z (.block id c) = true → a'.tmps.getD z undef = a.tmps.getD z undef) → Q (inBlk id e).exit a' w') → (Code.block id c).wp P Q a w ∧ ∀ c', Code.block id c = .loop c' → Code.rounds P c' Q k a w := fun b' hg hcv => by
   obtain ⟨hA', cs⟩ := hcv x1 hA1
   exact ⟨b', 0, hg, hA', fun g0 w0 Q a w hs hQ => ⟨wp_block (w1 g0 w0 _ a w hs (fun a' w' hs' hz => exit_block (hQ a' w' (cs _ _ _ _ hs') hz))).1, fun c' e => by cases e⟩⟩
  cases hi : getE (.e id) o1 with
  | none =>
   rw [hi] at hb
   cases hb
   have hne : e ≠ .e id := fun he => by subst he; rw [hi] at g1; cases g1
   have e1 : inBlk id e = e := by unfold inBlk; rw [if_neg hne]
   rw [e1] at key ⊢
   exact key b1 g1 (Cv.refl F b1)
  | some bi =>
   rw [hi] at hb
   simp only at hb
   obtain ⟨a1, b', a2, a3⟩ := addE_of hb
   by_cases he : e = .e id
   ·have e1 : inBlk id e = .n := by unfold inBlk; rw [if_pos he]
    rw [e1] at key ⊢
    rw [he, hi] at g1
    cases g1
    exact key b' a2 a3
   ·have e1 : inBlk id e = e := by unfold inBlk; rw [if_neg he]
    rw [e1] at key ⊢
    obtain ⟨b3, g3, cv⟩ := a1 e b1 (by rw [getE_drop he]; exact g1)
    exact key b3 g3 cv
 | @loopX F c x x1 e h1 he ih1 =>
  intro b outs hb hA
  simp only [bodyC] at hb
  obtain ⟨hd, o, cv, hf, ho, _, _⟩ := iterC_of hb
  obtain ⟨hAh, csh⟩ := cv x hA
  obtain ⟨b1, k1, g1, hA1, w1⟩ := ih1 hd o hf hAh
  refine ⟨b1, 1, by rw [ho, getE_drop he]; exact g1, hA1, fun g0 w0 Q a w hs hQ => ?_⟩
  have hr : Code.rounds P c Q 1 a w := (w1 g0 w0 _ a w (csh _ _ _ _ hs) (fun a' w' hs' hz => by rw [exit_then he]; exact hQ a' w' hs' hz)).1
  exact ⟨wp_loop_rounds 1 hr, fun c' e => by cases e; exact hr⟩
 | @loopN F c x x1 x2 e h1 h2 ih1 ih2 =>
  intro b outs hb hA
  simp only [bodyC] at hb
  obtain ⟨hd, o, cv, hf, ho, hback, hfix⟩ := iterC_of hb
  obtain ⟨hAh, csh⟩ := cv x hA
  obtain ⟨b1, k1, g1, hA1, w1⟩ := ih1 hd o hf hAh
  obtain ⟨hA1', csb⟩ := hback b1 g1 x1 hA1
  obtain ⟨b2, k2, g2, hA2, w2⟩ := ih2 hd outs (hfix 3) hA1'
  refine ⟨b2, k2 + 1, g2, hA2, fun g0 w0 Q a w hs hQ => ?_⟩
  have hr : Code.rounds P c Q (k2 + 1) a w := by
   rw [rounds_succ]
   refine (w1 g0 w0 _ a w (csh _ _ _ _ hs) (fun a' w' hs' hz => ?_)).1
   exact (w2 g0 w0 Q a' w' (csb _ _ _ _ hs') (fun a'' w'' hs'' hz2 => hQ a'' w'' hs'' (fun z hno => (hz2 z hno).trans (hz z hno)))).2 c rfl
  exact ⟨wp_loop_rounds _ hr, fun c' e => by cases e; exact hr⟩
 | @regionM F id x S i f c o p0 tp tk t t' r r0 r2 cells cells' k k' rs t1 t2 t3 t4 p1 p2 p3 p4 f1 f2 f3 f4 hmk hi h1 hM hle hc1 hc2 hr2 htp htk hob hch hB ihB =>
  intro b outs hb hA
  simp only [bodyC] at hb
  rw [show List.any (Array.toList _) deadO = false from rfl] at hb
  simp only [hmk, cond_false] at hb
  split at hb <;> try cases hb
  rename_i b1 hb1
  obtain ⟨hA1, hw⟩ := mkReg_S (Sgs := Sgs) hT hA (id := id) hi h1 hM hle hc1 hc2 hr2 htp htk hob (fun m hm sg h2 h3 h4 => ihB m hm sg h2 h3 h4) hch hb1
  obtain ⟨hA2, cs⟩ := keep_cv F id b1 _ hA1
  refine ⟨_, 0, rfl, hA2, fun g0 w0 Q a w hs hQ => ⟨hw g0 w0 Q a w hs (fun a' w' hs' hz => hQ a' w' (cs _ _ _ _ hs') (fun z hno => ?_)), fun c' e => by cases e⟩⟩
  simp only [noD, noDo, Bool.and_eq_true, Bool.not_eq_true', decide_eq_false_iff_not, Option.some.injEq] at hno
  exact hz z (Ne.symm hno.1) (Ne.symm hno.2.1) (Ne.symm hno.2.2.1) (Ne.symm hno.2.2.2.1)
 | @region F id ops dr x x1 hmk h1 ih1 =>
  intro b outs hb hA
  simp only [bodyC, hmk, dead_no h1, cond_false] at hb
  cases dr with
  | true =>
   simp only [cond_true] at hb
   split at hb <;> try cases hb
   rename_i b1 hb1
   unfold anyC at hb1
   obtain ⟨hc, hb1⟩ := cond_some hb1
   simp only [Bool.and_eq_true] at hc
   obtain ⟨hO, hK⟩ := hc
   split at hb1 <;> try cases hb1
   rename_i mf hlv
   obtain ⟨b2, hK⟩ := Option.isSome_iff_exists.1 hK
   obtain ⟨hA1, _, hrun⟩ := ih1 ops 0 rfl rfl b b2 (opsK_opsC hK) hA
   have hrun := hrun b2 hK
   have hle : (List.range ops.size).filter (fun j => !(Array.replicate ops.size false).getD j true) = List.range' 0 ops.toList.length := by
    rw [List.filter_eq_self.2 (fun j hj => by
     have := List.mem_range.1 hj
     simp [Array.getD, this]), List.range_eq_range']
    simp
   have hgo : ∀ (g0 : G) (w0 : World) (Q : Exit → Act → World → Prop) (a : Act) (w : World), Sim g0 w0 (b.S F.n x) a w → (∀ a' w', Ag F b1 x1 → Sim g0 w0 (b1.S F.n x1) a' w' → (∀ z, noDo z ops.toList = true → a'.tmps.getD z undef = a.tmps.getD z undef) → Q .normal a' w') →
     wpAny P .any ops Q ops.size (Array.replicate ops.size false) a { w with drawn := w.drawn + 1 } := fun g0 w0 Q a w hs hQ =>
    any_ok (a0 := a) hT hO hQ ops.size (Array.replicate ops.size false) 0 [(0, b)] b x a _ hlv (by simp [getL]) (by simp) (fun i hi => by simp [Array.getD, hi]) (fun j o ho hj => by
     have := (Array.getElem?_eq_some_iff.1 ho).1
     simp [Array.getD, this] at hj) (by
     rw [List.countP_eq_length_filter, hle]; simp) hA (by rw [hle]; exact hrun) (hs.drawn _) (fun _ _ => rfl)
   have hA2 := levels_ag hT hO ops.size 0 0 [(0, b)] b x (by simp) hlv (by simp [getL]) (fun i hi => by simp) hA (by simpa using hrun)
   obtain ⟨hA3, cs⟩ := keep_cv F id b1 x1 hA2
   exact ⟨_, 0, rfl, hA3, fun g0 w0 Q a w hs hQ => ⟨wp_region_any hM (hgo g0 w0 Q a w hs (fun a' w' _ hs' hz => hQ a' w' (cs _ _ _ _ hs') hz)), fun c' e => by cases e⟩⟩
  | false =>
   simp only [cond_false] at hb
   split at hb <;> try cases hb
   rename_i b1 hb1
   obtain ⟨hA1, w1, _⟩ := ih1 ops 0 rfl rfl b b1 hb1 hA
   obtain ⟨hA2, cs⟩ := keep_cv F id b1 x1 hA1
   refine ⟨_, 0, rfl, hA2, fun g0 w0 Q a w hs hQ => ⟨wp_region ?_, fun c' e => by cases e⟩⟩
   have := w1 g0 w0 Q a w hs (fun a' w' hs' hz => hQ a' w' (cs _ _ _ _ hs') hz)
   rw [List.range_eq_range']
   simpa using this
 | opsNil F ds x =>
  intro ops i _ _ b b' hb hA
  cases hb
  exact ⟨hA, fun g0 w0 Q a w hs hQ => hQ a w hs (fun _ _ => rfl), fun b2 _ => rfl⟩
 | @opsSkip F ds o r x x2 hg h2 ih2 =>
  intro ops i hdrop hds b b' hb hA
  subst hds
  exact step_rest hT hdrop hA (.inl ⟨hg, rfl⟩) hb ih2
 | @opsRun F ds o r x x1 x2 hg h1 h2 ih2 =>
  intro ops i hdrop hds b b' hb hA
  subst hds
  exact step_rest hT hdrop hA (.inr (.inl ⟨hg, h1⟩)) hb ih2
 | @opsCall F ds o rs x x2 c v f caps ob ob' r nw hg ho hcal hni hx hth hob h1 hsh h2 ih1 ih2 =>
  intro ops i hdrop hds b b' hb hA
  subst hds
  exact step_rest hT hdrop hA (.inr (.inr (.inl ⟨hg, c, v, f, caps, ob, ob', r, nw, ho, hcal, hni, hx, hth, hob, fun sg hsg e1 e2 => ih1 sg hsg e1 e2, hsh, rfl⟩))) hb ih2
 | @opsIo F ds o rs x x2 c v f r t xs l p x0 es es' hg ho hcal hio hx hth hargs hal hat hnav h1 hsh h2 ih1 ih2 =>
  intro ops i hdrop hds b b' hb hA
  subst hds
  exact step_rest hT hdrop hA (.inr (.inr (.inr ⟨hg, c, v, f, r, t, xs, l, p, x0, es, es', ho, hcal, hio, hx, hth, hargs, hal, hat, hnav, fun sg hsg e1 e2 => ih1 sg hsg e1 e2, hsh, rfl⟩))) hb ih2
 | @fn f fn c vs ob ob' e x' ws iov hf hb hsh hso h1 he hws hio hob ih1 =>
  intro sg hsg hnp hno g w us hsim
  have hq := hS f sg hsg fn c hf hb
  unfold fnC at hq
  cases hlb : (An f).lb with
  | some q =>
   exfalso
   rw [hlb] at hq
   obtain ⟨_, l2, l3⟩ := libC_of hq
   obtain ⟨v, vs', rfl⟩ : ∃ v vs', vs = v :: vs' := by
    cases vs with
    | nil => simp only [List.length_nil] at hnp; omega
    | cons v r => exact ⟨v, r, rfl⟩
   simp only [shapesIn, Bool.and_eq_true, FA.shOf, l2, List.getElem?_nil] at hsh
   have h0 := hsh.1
   cases v with
   | one w => cases w <;> exact absurd h0 (by simp [fits, fitsW])
   | tup ws => exact absurd h0 (by simp [fits])
  | none =>
  rw [hlb] at hq
  simp only at hq
  simp only [Bool.and_eq_true] at hq
  obtain ⟨⟨⟨⟨⟨⟨⟨⟨⟨q1, q2⟩, q3⟩, q4⟩, q5⟩, q6⟩, q7⟩, q8⟩, q9⟩, q10⟩ := hq
  have hn := Nat.eq_of_beq_eq_true q1
  have hp := Nat.le_of_ble_eq_true q2
  have hio0 : sg.io = (An f).io := of_decide_eq_true q7
  cases hout : bodyC τ Sgs (An f) c sg.bi with
  | none => rw [hout] at q10; cases q10
  | some outs =>
   rw [hout] at q10
   simp only [Bool.and_eq_true] at q10
   -- what it is entered with
   have hAg : Ag (An f) sg.bi (DA vs ob) := by
    refine ⟨fun i hi => ?_, fun o ho => ?_⟩
    ·right
     simp only [B.has] at hi
     cases hl : look i sg.bi.sl with
     | none => rw [hl] at hi; cases hi
     | some κ =>
      have hlt : i < vs.length := by rw [← hnp]; exact blt_of (List.all_eq_true.1 q5 _ (look_mem hl))
      have := shapesIn_of hsh (List.getElem?_eq_getElem hlt)
      rw [Nat.zero_add] at this
      have e : (DA vs ob).sl i = vs[i] := by simp [DA, List.getD, List.getElem?_eq_getElem hlt]
      rw [e]; exact this
    ·simp only [B.hasO] at ho
     cases hl : look o sg.bi.ob with
     | none => rw [hl] at ho; cases ho
     | some κ =>
      have h3 := List.all_eq_true.1 q6 _ (look_mem hl)
      simp only [Bool.and_eq_true] at h3
      have h4 := Nat.le_of_ble_eq_true h3.1
      have h5 := blt_of h3.2
      have hlt : o - par < ob.length := by rw [← hno]; omega
      have := shapesOb_of hso (List.getElem?_eq_getElem hlt)
      rw [Nat.zero_add, Nat.add_sub_of_le h4] at this
      exact ⟨ob[o - par], by simp [DA, h4, List.getElem?_eq_getElem hlt], this⟩
   obtain ⟨b', k, hg, hA', hw⟩ := ih1 sg.bi outs hout hAg
   have hcall : (callFunc f us).run P w = .ok (.enter f us) w := by
    have hne : fn.name ≠ "runtime.NumGoroutine" := by simpa using q4
    simp [callFunc, run_program, hf, hne, hb]
   rw [hcall]
   show Calls P f us w _
   refine calls_of_wp hf hb ?_
   have hsim2 := hsim.body (n := fn.ntmps) (Nat.le_of_ble_eq_true q3) hp
   rw [hn] at hw
   refine (hw g w _ _ w ⟨g, hsim2⟩ (fun a' w' hs' hz => ?_)).1
   obtain ⟨g', hs'⟩ := hs'
   have hchk : resAll (An f) b' sg.bo (sigR (An f) fn.results.toList (An f).n0 (An f).io) 0 fn.results.toList = true ∧ objsB (An f) b' sg.bo (An f).n0 = true ∧ ioEnd (An f) b' sg.bo fn.results.toList c = true := by
    rcases he with rfl | rfl
    ·have := q10.1; rw [hg] at this; simpa [and_assoc] using this
    ·have := q10.2; rw [hg] at this; simpa [and_assoc] using this
   have hbo : ∀ i, sg.bo.has i = true → i = 0 ∨ (i = 1 ∧ (An f).io.isSome = true) := fun i hi => by
    simp only [B.has] at hi
    cases hl : look i sg.bo.sl with
    | none => rw [hl] at hi; cases hi
    | some κ =>
     have := List.all_eq_true.1 q8 _ (look_mem hl)
     simp only [Bool.or_eq_true, Bool.and_eq_true] at this
     rcases this with h | h
     ·exact .inl (Nat.eq_of_beq_eq_true h)
     ·exact .inr ⟨Nat.eq_of_beq_eq_true h.1, h.2⟩
   have hobd : ∀ oc o1, sg.bo.hasO oc = true → retO (An f).n0 o1 = some oc → (DR ((retV ws).to (retO (An f).n0)) iov ob' ((An f).n0.bind x'.ob)).ob oc = x'.ob o1 := fun oc o1 hoc hret => by
    -- the objects that were handed in
    obtain ⟨hol, hog⟩ := obsOut_of hob
    simp only [retO] at hret
    split at hret
    ·rename_i hpo
     cases hret
     have h1 : sg.bi.hasO oc = true := by
      simp only [B.hasO] at hoc
      cases hl : look oc sg.bo.ob with
      | none => rw [hl] at hoc; cases hoc
      | some κ =>
       have := List.all_eq_true.1 q9 _ (look_mem hl)
       simp only [Bool.or_eq_true] at this
       rcases this with h | h
       ·have := Nat.eq_of_beq_eq_true h
        subst this
        exact absurd hpo par_pos
       ·exact h
     simp only [B.hasO] at h1
     cases hl : look oc sg.bi.ob with
     | none => rw [hl] at h1; cases h1
     | some κ =>
      have h3 := List.all_eq_true.1 q6 _ (look_mem hl)
      simp only [Bool.and_eq_true] at h3
      have h5 := blt_of h3.2
      have hlt : oc - par < ob.length := by rw [← hno]; omega
      have := hog (oc - par) hlt
      rw [Nat.zero_add, Nat.add_sub_of_le hpo] at this
      simp only [DR, if_pos hpo, this]
    ·split at hret
     ·rename_i hpo hn0
      cases hret
      simp only [DR, if_neg par_pos, if_true, hn0, Option.bind_some]
     ·cases hret
   obtain ⟨us', hl', hrun, g'', hfin⟩ := SimG.ret hT hs' hA' (io := (An f).io) (iov := iov) (u1 := us.getD (sg.io.getD 0) undef) (ob := ob') (nw := (An f).n0.bind x'.ob) hws hchk.1 hchk.2.1 hobd (fun z e => by
    have h3 := hchk.2.2
    unfold ioEnd at h3
    rw [e] at h3 hio
    simp only [Bool.and_eq_true, Bool.or_eq_true, Bool.not_eq_true', decide_eq_true_eq] at h3
    obtain ⟨⟨⟨z1, z2⟩, z3⟩, z4⟩ := h3
    simp only [ioOut] at hio
    split at hio <;> try cases hio
    rename_i tt ht
    refine ⟨?_, z1, ⟨tt, ht, rfl⟩, z2, fun hh => ?_⟩
    ·rw [hz z z4, hio0, e]
     show (us ++ Array.replicate (fn.ntmps - us.size) undef).getD z undef = us.getD z undef
     simp only [Array.getD_eq_getD_getElem?, Array.getElem?_append]
     split
     ·rfl
     ·rename_i hi
      rw [Array.getElem?_eq_none (xs := us) (by omega)]
      simp only [Array.getElem?_replicate]
      split <;> rfl
    ·rcases z3 with z3 | z3
     ·rw [z3] at hh; cases hh
     ·rw [e]; exact z3) (fun hn => by
    cases h1 : sg.bo.has 1 with
    | false => rfl
    | true =>
     rcases hbo 1 h1 with h | h
     ·cases h
     ·rw [hn] at h; cases h.2) (fun i hi => by rcases hbo i hi with h | h <;> omega)
   have hres := run_results (P := P) (w := w') (fn := fn) (tmps := a'.tmps) hl' hrun
   have hpost : bodyPost P fn (fun e w' => ∃ v, e = .returned v ∧ ∃ g', SimG g w (sg.bo.S 2 (DR ((retV ws).to (retO (An f).n0)) iov ob' ((An f).n0.bind x'.ob))) ⟨#[v, us.getD (sg.io.getD 0) undef], []⟩ g' w') .normal a' w' := ⟨hs'.defers, _, hres, _, rfl, g'', hfin⟩
   rcases he with rfl | rfl
   ·exact hpost
   ·exact hpost
 | @lib f fn c vs r q hf hb hq h1 =>
  intro sg hsg hnp hno
  have hh := hS f sg hsg fn c hf hb
  unfold fnC at hh
  rw [hq] at hh
  obtain ⟨e, _, _⟩ := libC_of hh
  rw [e]
  exact h1
end
end Go.Own

/- Conditions under which code runs on data to what is wanted. -/
namespace Go.Own
open Go.RowKit

section
variable (P : Program) (τ : TypeId → Option TI) (An : FuncId → FA)

/-- A run to what Q tells. -/
def Wd (F : FA) (c : Code) (x : D) (Q : Ek → D → Prop) : Prop := ∃ e x', Big P τ An (.code F c x e x') ∧ Q e x'
def Wo (F : FA) (ds : List (Option Nat)) (os : List Oper) (x : D) (Q : D → Prop) : Prop := ∃ x', Big P τ An (.ops F ds os x x') ∧ Q x'

def thenD (K : D → Prop) (Q : Ek → D → Prop) : Ek → D → Prop
 | .n, x => K x
 | e, x => Q e x
def blkD (id : Nat) (Q : Ek → D → Prop) (e : Ek) (x : D) : Prop := Q (inBlk id e) x

/-- A call's condition. -/
def vcCall (F : FA) (o : Oper) (c : Call) (v : Operand) (x : D) (K : D → Prop) : Prop :=
 ioArg F c = false ∧ ∃ f caps ob ob' r nw, ev x.sl v = .one (.fn f caps) ∧ c.args.toList.all (fun v => thereV (ev x.sl v)) = true ∧ ob.map some = (osOf F c v).map x.ob ∧ Big P τ An (.fn f (inV x c caps (osOf F c v)) ob r none ob' nw) ∧
  callShapes F (x.call o.dst (ndOf F o.dst) (osOf F c v) (DR r none ob' nw)) o.dst (ndOf F o.dst) (osOf F c v) = true ∧ K (x.call o.dst (ndOf F o.dst) (osOf F c v) (DR r none ob' nw))
/-- The condition of a call that turns its first argument in place. -/
def vcIo (F : FA) (o : Oper) (c : Call) (v : Operand) (x : D) (K : D → Prop) : Prop :=
 ioArg F c = true ∧ ∃ f r t xs l p x0 es es', ev x.sl v = .one (.fn f []) ∧ c.args.toList.all (fun v => thereV (ev x.sl v)) = true ∧ c.args.toList = .tmp t :: xs ∧ x.sl t = .one (.al l p) ∧ x.at l = some x0 ∧ nav x0 p = some (.sl es) ∧ Big P τ An (.fn f (inV x c [] []) [] r (some (.sl es')) [] none) ∧
  callShapes F (x.call o.dst none [] (DR r (some (.sl es')) [] none)) o.dst none [] = true ∧ K ((x.call o.dst none [] (DR r (some (.sl es')) [] none)).upd l (setAt x0 p (.sl es')))
def vcRun (F : FA) (o : Oper) (x : D) (K : D → Prop) : Prop := match calleeV o with
 | some (c, v) => vcCall P τ An F o c v x K ∨ vcIo P τ An F o c v x K
 | none => ∃ x1, dOp τ F x o = some x1 ∧ K x1
def vcOne (F : FA) (ds : List (Option Nat)) (o : Oper) (x : D) (K : D → Prop) : Prop := match guardD ds x o.guard with
 | some true => vcRun P τ An F o x K
 | some false => K (skipD x o.dst)
 | none => False
def vcOps (F : FA) (ds : List (Option Nat)) : List Oper → D → (D → Prop) → Prop
 | [], x, K => K x
 | o :: r, x, K => vcOne P τ An F ds o x (fun x1 => vcOps F ds r x1 K)

def vcC (F : FA) : Code → D → (Ek → D → Prop) → Prop
 | .skip, x, Q => Q .n x
 | .label _, x, Q => Q .n x
 | .exit i, x, Q => Q (.e i) x
 | .ret, x, Q => Q .r x
 | .seq a b, x, Q => vcC F a x (thenD (fun x1 => vcC F b x1 Q) Q)
 | .cond c a b, x, Q => ∃ t, ev x.sl c = .one (.c (.bool t)) ∧ (t = true → vcC F a x Q) ∧ (t = false → vcC F b x Q)
 | .block id c, x, Q => vcC F c x (blkD id Q)
 | .loop c, x, Q => Wd P τ An F (.loop c) x Q
 | .region id ops dr, x, Q => (look id F.mks = none ∧ vcOps P τ An F (ops.toList.map (·.dst)) ops.toList x (fun x1 => Q .n x1)) ∨ ∃ x1, Big P τ An (.code F (.region id ops dr) x .n x1) ∧ Q .n x1
 | _, _, _ => False
end

section
variable {P : Program} {τ : TypeId → Option TI} {An : FuncId → FA}

theorem vcOps_ok {F : FA} {ds : List (Option Nat)} : ∀ {os : List Oper} {x : D} {K : D → Prop}, vcOps P τ An F ds os x K → Wo P τ An F ds os x K
 | [], x, K, h => ⟨x, .opsNil F ds x, h⟩
 | o :: r, x, K, h => by
  simp only [vcOps, vcOne] at h
  split at h
  ·rename_i hg
   unfold vcRun at h
   split at h
   ·rename_i c v hc
    have hoc : o.op = .call c ∧ c.callee = .value v := by
     unfold calleeV at hc
     split at hc <;> try cases hc
     rename_i c' ho
     split at hc <;> try cases hc
     rename_i v' hv
     exact ⟨ho, hv⟩
    rcases h with ⟨h0, f, caps, ob, ob', rr, nw, h1, h2, h3, h4, h5, h6⟩ | ⟨h0, f, rr, t, xs, l, p, x0, es, es', h1, h2, h3, h4, h5, h6, h7, h8, h9⟩
    ·obtain ⟨x', q1, q2⟩ := vcOps_ok h6
     exact ⟨x', .opsCall hg hoc.1 hoc.2 h0 h1 h2 h3 h4 h5 q1, q2⟩
    ·obtain ⟨x', q1, q2⟩ := vcOps_ok h9
     exact ⟨x', .opsIo hg hoc.1 hoc.2 h0 h1 h2 h3 h4 h5 h6 h7 h8 q1, q2⟩
   ·obtain ⟨x1, h1, h2⟩ := h
    obtain ⟨x', q1, q2⟩ := vcOps_ok h2
    exact ⟨x', .opsRun hg h1 q1, q2⟩
  ·rename_i hg
   obtain ⟨x', q1, q2⟩ := vcOps_ok h
   exact ⟨x', .opsSkip hg q1, q2⟩
  ·exact h.elim

theorem vcC_ok {F : FA} : ∀ {c : Code} {x : D} {Q : Ek → D → Prop}, vcC P τ An F c x Q → Wd P τ An F c x Q
 | .skip, x, Q, h => ⟨.n, x, .skip F x, h⟩
 | .label l, x, Q, h => ⟨.n, x, .label F l x, h⟩
 | .exit i, x, Q, h => ⟨.e i, x, .exit F i x, h⟩
 | .ret, x, Q, h => ⟨.r, x, .ret F x, h⟩
 | .seq a b, x, Q, h => by
  obtain ⟨e, x1, h1, h2⟩ := vcC_ok (c := a) h
  by_cases he : e = .n
  ·subst he
   obtain ⟨e2, x2, q1, q2⟩ := vcC_ok (c := b) h2
   exact ⟨e2, x2, .seqN h1 q1, q2⟩
  ·refine ⟨e, x1, .seqX h1 he, ?_⟩
   cases e with
   | n => exact absurd rfl he
   | r => exact h2
   | e i => exact h2
 | .cond c a b, x, Q, h => by
  obtain ⟨t, hc, h1, h2⟩ := h
  cases t with
  | true =>
   obtain ⟨e, x1, q1, q2⟩ := vcC_ok (c := a) (h1 rfl)
   exact ⟨e, x1, .cond hc q1, q2⟩
  | false =>
   obtain ⟨e, x1, q1, q2⟩ := vcC_ok (c := b) (h2 rfl)
   exact ⟨e, x1, .cond hc q1, q2⟩
 | .block id c, x, Q, h => by
  obtain ⟨e, x1, h1, h2⟩ := vcC_ok (c := c) h
  exact ⟨_, x1, .block h1, h2⟩
 | .loop c, x, Q, h => h
 | .region id ops dr, x, Q, h => by
  rcases h with ⟨h0, h⟩ | ⟨x1, h1, h2⟩
  ·obtain ⟨x1, h1, h2⟩ := vcOps_ok h
   exact ⟨.n, x1, .region h0 h1, h2⟩
  ·exact ⟨.n, x1, h1, h2⟩
 | .scope c, x, Q, h => h.elim
 | .rangeFunc _ _ _ _, x, Q, h => h.elim
 | .goto _, x, Q, h => h.elim
 | .refuse _, x, Q, h => h.elim

end
end Go.Own

/- A function's run; how data are looked up. -/
namespace Go.Own
open Go.RowKit

section
variable {P : Program} {τ : TypeId → Option TI} {An : FuncId → FA}

theorem Big.of {f : FuncId} {fn : Func} {c : Code} {vs : List V} {ob ob' : List (List T)} {r : V} {nw : Option (List T)} (hf : P.funcs[f]? = some fn) (hb : fn.body = some c) (hsh : shapesIn (An f) 0 vs = true) (hso : shapesOb (An f) 0 ob = true) (hio : (An f).io = none)
  (h : vcC P τ An (An f) c (DA vs ob) (fun e x => (e = .n ∨ e = .r) ∧ ∃ ws, resWs τ x fn.results.toList = some ws ∧ (retV ws).to (retO (An f).n0) = r ∧ obsOut x 0 ob = some ob' ∧ (An f).n0.bind x.ob = nw)) : Big P τ An (.fn f vs ob r none ob' nw) := by
 obtain ⟨e, x', h1, he, ws, h2, rfl, h3, rfl⟩ := vcC_ok h
 exact .fn hf hb hsh hso h1 he h2 (by rw [hio]; rfl) h3

theorem Big.ofIo {f : FuncId} {fn : Func} {c : Code} {vs : List V} {ob ob' : List (List T)} {r : V} {nw : Option (List T)} {z : Nat} {y : T} (hf : P.funcs[f]? = some fn) (hb : fn.body = some c) (hsh : shapesIn (An f) 0 vs = true) (hso : shapesOb (An f) 0 ob = true) (hio : (An f).io = some z)
  (h : vcC P τ An (An f) c (DA vs ob) (fun e x => (e = .n ∨ e = .r) ∧ ∃ ws, resWs τ x fn.results.toList = some ws ∧ (retV ws).to (retO (An f).n0) = r ∧ obsOut x 0 ob = some ob' ∧ (An f).n0.bind x.ob = nw ∧ x.sl z = .one (.c y))) : Big P τ An (.fn f vs ob r (some y) ob' nw) := by
 obtain ⟨e, x', h1, he, ws, h2, rfl, h3, rfl, h4⟩ := vcC_ok h
 exact .fn hf hb hsh hso h1 he h2 (by rw [hio]; simp only [ioOut, h4]) h3

section
variable (x : D) (d i : Nat) (v : V)
@[simp] theorem put_ob : (x.put d v).ob = x.ob := rfl.trans rfl
end
/-- A put whose shape is seen. -/
theorem putD_eq {F : FA} {x : D} {d : Nat} {v : V} (h : fits v (F.shOf d) = true) : putD F x d v = some (x.put d v) := by
 unfold putD; rw [h]; rfl
end
end Go.Own

/- From a row's world to the call. -/
namespace Go.Own
open Go.RowKit

def G.old : G := { β := fun _ => 0, own := fun _ => .none }

theorem TC.row {P : Program} {f : FuncId} {fn : Func} {c : Code} {sg : Sg} {args : List V} (h : TC P f sg args [] (.one (.c (.bool true))) none [] none) (hb0 : sg.bo.has 0 = true) (hbo : sg.bi.ob = []) (hnp : sg.np = args.length) (hle : sg.np ≤ par)
  (hf : P.funcs[f]? = some fn) (hb : fn.body = some c) (hname : (fn.name == "runtime.NumGoroutine") = false) (w : World) (us : Array Value) (hsz : us.size = args.length)
  (hroot : ∀ i, rootOf (args.getD i (.one .junk)) = .none) (hvs : ∀ i, sg.bi.has i = true → RV G.old w (fun k j => sg.bi.kd (.s i k j)) (fun k j => .s i k j) (us.getD i undef) (args.getD i (.one .junk))) :
  Calls P f us w fun e w' => e = .returned (.bool true) ∧ Below w.heap.size w w' := by
 have hs : SimG G.old w (sg.bi.S sg.np (DA args [])) ⟨us, []⟩ G.old w := by
  refine ⟨Framed.refl _ _, ⟨fun b h => absurd rfl h⟩, by rw [hsz, ← hnp]; rfl, rfl, fun i => ?_, fun o cells ho => ?_, fun i hi => ?_, fun _ _ => rfl, hle⟩
  ·show RV _ w (fun k j => sg.bi.kd (.s i k j)) _ (us.getD i undef) (if sg.bi.has i = true then args.getD i (.one .junk) else .one .junk)
   by_cases e : sg.bi.has i = true
   ·rw [if_pos e]; exact hvs i e
   ·rw [if_neg e]; trivial
  ·have ho' : (if sg.bi.hasO o = true then (DA args []).ob o else none) = some cells := ho
   split at ho' <;> try cases ho'
   rename_i e
   simp only [B.hasO, hbo, look] at e
   cases e
  ·exfalso
   apply hi
   show rootOf (if sg.bi.has i = true then args.getD i (.one .junk) else .one .junk) = .none
   split
   ·exact hroot i
   ·rfl
 have h1 := h _ w us hs
 have hne : fn.name ≠ "runtime.NumGoroutine" := by simpa using hname
 have hcall : (callFunc f us).run P w = .ok (.enter f us) w := by simp [callFunc, run_program, hf, hne, hb]
 rw [hcall] at h1
 refine Calls.mono h1 ?_
 rintro e w' ⟨v, rfl, g', h2⟩
 have hr := h2.slots 0
 rw [S_sl hb0] at hr
 have hv : v = .bool true := rv_bool hr
 subst hv
 exact ⟨rfl, h2.framed.os, h2.framed.tape, h2.framed.output, h2.framed.evo.size, fun k hk => (h2.framed.evo.keep k hk (fun h => h (.inl rfl))).2⟩

/-- A function's contract, out of its run and the checks. -/
theorem TC.of {P : Program} {τ : TypeId → Option TI} {An : FuncId → FA} {Sgs : FuncId → List Sg} (hM : P.follows .mixedOrders = true) (hT : Tables P τ) (hS : ∀ f sg, sg ∈ Sgs f → ∀ fn c, P.funcs[f]? = some fn → fn.body = some c → fnC τ An Sgs f sg fn c = true)
  {f : FuncId} {vs : List V} {ob ob' : List (List T)} {r : V} {nw : Option (List T)} (h : Big P τ An (.fn f vs ob r none ob' nw)) {sg : Sg} (hsg : sg ∈ Sgs f) (hnp : sg.np = vs.length) (hno : sg.no = ob.length) : TC P f sg vs ob r none ob' nw :=
 big_sound hM hT hS h sg hsg hnp hno
end Go.Own

/- Steps through code, one at a time. -/
namespace Go.Own
open Go.RowKit

section
variable {P : Program} {τ : TypeId → Option TI} {An : FuncId → FA} {F : FA} {ds : List (Option Nat)} {o : Oper} {r : List Oper} {x x1 : D} {K : D → Prop} {Q : Ek → D → Prop}

theorem step_run (hg : guardD ds x o.guard = some true) (hc : calleeV o = none) (h1 : dOp τ F x o = some x1) (h : vcOps P τ An F ds r x1 K) : vcOps P τ An F ds (o :: r) x K := by
 simp only [vcOps, vcOne, hg, vcRun, hc]
 exact ⟨x1, h1, h⟩
theorem step_skip (hg : guardD ds x o.guard = some false) (h1 : skipD x o.dst = x1) (h : vcOps P τ An F ds r x1 K) : vcOps P τ An F ds (o :: r) x K := by
 subst h1
 simp only [vcOps, vcOne, hg]
 exact h
theorem step_nil (h : K x) : vcOps P τ An F ds [] x K := h
theorem ioArg_no {c : Call} {v : Operand} {os : List Nat} (h : osOf F c v = os) (hn : os ≠ [0, 0]) : ioArg F c = false := by
 unfold osOf at h
 cases e : ioArg F c with
 | false => rfl
 | true => rw [e] at h; exact absurd h.symm hn
theorem step_call {c : Call} {v : Operand} {f : FuncId} {caps : List (Nat × Nat)} {vs : List V} {ob ob' : List (List T)} {rr : V} {nw : Option (List T)} {x1 : D} (hg : guardD ds x o.guard = some true) (hc : calleeV o = some (c, v)) (hni : ioArg F c = false) (hx : ev x.sl v = .one (.fn f caps)) (hth : c.args.toList.all (fun v => thereV (ev x.sl v)) = true)
  (hob : ob.map some = (osOf F c v).map x.ob) (hvs : inV x c caps (osOf F c v) = vs) (hB : Big P τ An (.fn f vs ob rr none ob' nw)) (hx1 : x.call o.dst (ndOf F o.dst) (osOf F c v) (DR rr none ob' nw) = x1) (hsh : callShapes F x1 o.dst (ndOf F o.dst) (osOf F c v) = true)
  (h : vcOps P τ An F ds r x1 K) : vcOps P τ An F ds (o :: r) x K := by
 subst hx1; subst hvs
 simp only [vcOps, vcOne, hg, vcRun, hc]
 exact .inl ⟨hni, f, caps, ob, ob', rr, nw, hx, hth, hob, hB, hsh, h⟩
theorem step_io {c : Call} {v : Operand} {f : FuncId} {vs : List V} {rr : V} {t : Nat} {xs : List Operand} {l : Loc} {p : List (Nat × Nat)} {x0 : T} {es es' : List (List T)} (hg : guardD ds x o.guard = some true) (hc : calleeV o = some (c, v)) (hio : ioArg F c = true) (hx : ev x.sl v = .one (.fn f [])) (hth : c.args.toList.all (fun v => thereV (ev x.sl v)) = true)
  (hargs : c.args.toList = .tmp t :: xs) (hal : x.sl t = .one (.al l p)) (hat : x.at l = some x0) (hnav : nav x0 p = some (.sl es)) (hvs : inV x c [] [] = vs) (hB : Big P τ An (.fn f vs [] rr (some (.sl es')) [] none)) (hsh : callShapes F (x.call o.dst none [] (DR rr (some (.sl es')) [] none)) o.dst none [] = true)
  (h : vcOps P τ An F ds r ((x.call o.dst none [] (DR rr (some (.sl es')) [] none)).upd l (setAt x0 p (.sl es'))) K) : vcOps P τ An F ds (o :: r) x K := by
 subst hvs
 simp only [vcOps, vcOne, hg, vcRun, hc]
 exact .inr ⟨hio, f, rr, t, xs, l, p, x0, es, es', hx, hth, hargs, hal, hat, hnav, hB, hsh, h⟩
end

end Go.Own

/- Steps by the form of the operation. -/
namespace Go.Own
open Go.RowKit

section
variable {P : Program} {τ : TypeId → Option TI} {An : FuncId → FA} {F : FA} {ds : List (Option Nat)} {r : List Oper} {x : D} {K : D → Prop} {ty : TypeId} {pos : String} {after : Array Edge} {gd : Option (Nat × Bool)} {d : Nat}

theorem s_assign {y : Operand} {v : V} (hg : guardD ds x gd = some true) (hv : ev x.sl y = v) (ht : thereV v = true) (hf : fits v (F.shOf d) = true) (h : vcOps P τ An F ds r (x.put d v) K) : vcOps P τ An F ds (⟨some d, .assign y, ty, pos, after, gd⟩ :: r) x K := by
 subst hv
 refine step_run hg rfl ?_ h
 show dMove F x d y = _
 unfold dMove
 rw [ht]; exact putD_eq hf
theorem s_move {y : Operand} {v : V} (hg : guardD ds x gd = some true) (hm : mem d F.al = false) (hv : ev x.sl y = v) (ht : thereV v = true) (hf : fits v (F.shOf d) = true) (h : vcOps P τ An F ds r (x.put d v) K) : vcOps P τ An F ds (⟨some d, .move y, ty, pos, after, gd⟩ :: r) x K := by
 subst hv
 refine step_run hg rfl ?_ h
 show (bif mem d F.al then dAlias F x d y else dMove F x d y) = _
 rw [hm]
 unfold dMove
 rw [cond_false, ht]; exact putD_eq hf
theorem s_pick {c y z : Operand} {b : Bool} {t : T} (hg : guardD ds x gd = some true) (hc : ev x.sl c = .one (.c (.bool b))) (hv : ev x.sl (if b then y else z) = .one (.c t)) (hs : scal t = true) (hf : fits (.one (.c t)) (F.shOf d) = true) (h : vcOps P τ An F ds r (x.put d (.one (.c t))) K) : vcOps P τ An F ds (⟨some d, .pick c y z, ty, pos, after, gd⟩ :: r) x K := by
 refine step_run hg rfl ?_ h
 show dPick F x d c y z = _
 unfold dPick
 rw [hc]
 cases b with
 | true =>
  have hv : ev x.sl y = .one (.c t) := hv
  simp only [hv, hs, cond_true]; exact putD_eq hf
 | false =>
  have hv : ev x.sl z = .one (.c t) := hv
  simp only [hv, hs, cond_true]; exact putD_eq hf
theorem s_bin {op : BinOp} {t t2 : TypeId} {y z : Operand} {v1 v2 : V} {w : T} (hg : guardD ds x gd = some true) (h1 : evD x y = v1) (h2 : evD x z = v2) (hb : binV τ op t v1 v2 = some w) (hf : fits (.one (.c w)) (F.shOf d) = true) (h : vcOps P τ An F ds r (x.put d (.one (.c w))) K) : vcOps P τ An F ds (⟨some d, .binOp op t y z t2, ty, pos, after, gd⟩ :: r) x K := by
 subst h1; subst h2
 refine step_run hg rfl ?_ h
 show dRead τ F x d (.binOp op t y z t2) = _
 unfold dRead
 simp only [readV, hb]
 exact putD_eq hf
end
end Go.Own

/- One tactic for a step. -/
namespace Go.Own
open Go.RowKit

end Go.Own

/- More steps by the form of the operation. -/
namespace Go.Own
open Go.RowKit

section
variable {P : Program} {τ : TypeId → Option TI} {An : FuncId → FA} {F : FA} {ds : List (Option Nat)} {r : List Oper} {x : D} {K : D → Prop} {ty : TypeId} {pos : String} {after : Array Edge} {gd : Option (Nat × Bool)} {d : Nat}

/-- A read of any form. -/
theorem s_read {op : Op} {w : T} (hg : guardD ds x gd = some true) (hc : calleeV ⟨some d, op, ty, pos, after, gd⟩ = none) (hd : dOp τ F x ⟨some d, op, ty, pos, after, gd⟩ = dRead τ F x d op) (hr : readV τ (evD x) op = some w) (hf : fits (.one (.c w)) (F.shOf d) = true) (h : vcOps P τ An F ds r (x.put d (.one (.c w))) K) :
    vcOps P τ An F ds (⟨some d, op, ty, pos, after, gd⟩ :: r) x K := by
  refine step_run hg hc ?_ h
  rw [hd]
  unfold dRead
  rw [hr]; exact putD_eq hf
theorem s_len {y : Operand} {t e : TypeId} {es : List (List T)} (hg : guardD ds x gd = some true) (ht : tk τ t = some (.sl e)) (hv : evD x y = .one (.c (.sl es))) (hf : fits (.one (.c (.int .i64 0))) (F.shOf d) = true) (h : vcOps P τ An F ds r (x.put d (.one (.c (.int .i64 es.length)))) K) :
    vcOps P τ An F ds (⟨some d, .call { callee := .builtin .len, args := #[y], argTypes := #[t] }, ty, pos, after, gd⟩ :: r) x K := by
  refine s_read hg rfl rfl ?_ (by
    revert hf
    cases F.shOf d with
    | tup ws => simp [fits]
    | one w => cases w <;> simp [fits, fitsW]
               rename_i z; cases z <;> simp [conf]) h
  show (match tk τ t, evD x y with
      | some .str, .one (.c (.str s)) => some (T.int .i64 s.length)
      | some (.sl _), .one (.c (.sl es)) => some (.int .i64 es.length)
      | _, _ => none) = _
  rw [ht, hv]
theorem s_index {t e : TypeId} {ei : TI} {v i : Operand} {es : List (List T)} {row : List T} {k : IntKind} {n : Int} (hg : guardD ds x gd = some true) (ht : tk τ t = some (.sl e)) (he : τ e = some ei) (hv : ev x.sl v = .one (.c (.sl es))) (hi : ev x.sl i = .one (.c (.int k n))) (h0 : 0 ≤ n) (hrow : es[n.toNat]? = some row) (hsz : row.length = ei.size)
    (hf : fits (.one (.cp row)) (F.shOf d) = true) (h : vcOps P τ An F ds r (x.put d (.one (.cp row))) K) : vcOps P τ An F ds (⟨some d, .indexAddr t v i, ty, pos, after, gd⟩ :: r) x K := by
  refine step_run hg rfl ?_ h
  show (bif isPpV (F.shOf d) && isSlV (ev x.sl v) then dIndexS τ F x d t v i else dIndex τ F x d t v i) = _
  rw [show (isPpV (F.shOf d) && isSlV (ev x.sl v)) = false by
    cases hq : isPpV (F.shOf d) with
    | false => rfl
    | true =>
      obtain ⟨l, p, n, j, e⟩ := isPpV_of hq
      rw [e] at hf; simp [fits, fitsW] at hf, cond_false]
  unfold dIndex
  simp only [ht, hi, hv, idx, he, h0, if_true, hrow, hsz, Nat.beq_refl, cond_true]
  exact putD_eq hf
theorem s_loadc {t : TypeId} {v : Operand} {ti : TI} {xs : List T} {w : V} (hg : guardD ds x gd = some true) (ht : τ t = some ti) (hv : ev x.sl v = .one (.cp xs)) (hl : loadV ti xs = some w) (hf : fits w (F.shOf d) = true) (h : vcOps P τ An F ds r (x.put d w) K) :
    vcOps P τ An F ds (⟨some d, .load t v, ty, pos, after, gd⟩ :: r) x K := by
  refine step_run hg rfl ?_ h
  show (bif mem d F.tk && (!(mem d F.al) && isPpV (ev x.sl v)) then dLoadT τ F x d t v else dLoad τ F x d t v (mem d F.al)) = _
  rw [show (mem d F.tk && (!(mem d F.al) && isPpV (ev x.sl v))) = false by rw [hv]; simp [isPpV], cond_false]
  unfold dLoad
  simp only [ht, hv, hl]
  exact putD_eq hf
theorem s_loado {t : TypeId} {v : Operand} {ti : TI} {ob p : Nat} {cells : List T} {w : V} (hg : guardD ds x gd = some true) (ht : τ t = some ti) (hm : mem d F.al = false) (hv : ev x.sl v = .one (.ptr ob p)) (hc : x.ob ob = some cells) (hl : loadV ti (cells.drop p) = some w) (hf : fits w (F.shOf d) = true) (h : vcOps P τ An F ds r (x.put d w) K) :
    vcOps P τ An F ds (⟨some d, .load t v, ty, pos, after, gd⟩ :: r) x K := by
  refine step_run hg rfl ?_ h
  show (bif mem d F.tk && (!(mem d F.al) && isPpV (ev x.sl v)) then dLoadT τ F x d t v else dLoad τ F x d t v (mem d F.al)) = _
  rw [show (mem d F.tk && (!(mem d F.al) && isPpV (ev x.sl v))) = false by rw [hv]; simp [isPpV], cond_false]
  unfold dLoad
  simp only [ht, hv, hc, hm, cond_false, hl]
  exact putD_eq hf
theorem s_append {t u e : TypeId} {ei : TI} {v y : Operand} {es1 es2 : List (List T)} (hg : guardD ds x gd = some true) (ht : tk τ t = some (.sl e)) (he : τ e = some ei) (hv : ev x.sl v = .one (.c (.sl es1))) (hy : esOf (ev x.sl y) = some es2) (hu : strOrSl τ u e = true) (hok : appOk ei es1 es2 = true)
    (hf : fits (.one (.c (.sl []))) (F.shOf d) = true) (h : vcOps P τ An F ds r (x.put d (.one (.c (.sl (es1 ++ es2))))) K) : vcOps P τ An F ds (⟨some d, .call { callee := .builtin .append, args := #[v, y], argTypes := #[t, u] }, ty, pos, after, gd⟩ :: r) x K := by
  refine step_run hg rfl ?_ h
  show dAppend τ F x d t u v y = _
  unfold dAppend
  simp only [ht, he, hv, hy, hu, hok, Bool.and_self, cond_true]
  exact putD_eq (by
    revert hf
    cases F.shOf d with
    | tup ws => simp [fits]
    | one w => cases w <;> simp [fits, fitsW]
               rename_i z; cases z <;> simp [conf])
end
end Go.Own
