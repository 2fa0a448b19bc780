/- A calculus for runs on plain data (part 4): whoever runs code on data, with its owners checked, runs the program. No conditions. -/
import Derived.Test.YtgeomhdbckjkcaaOwn2
import Derived.Below
import Derived.ChangeArms
import Derived.ChangeOld
import Derived.DataReads
import Derived.OpenShut
import Derived.ProofKit
import Derived.ShutString
import Derived.SizedLaws
import Derived.WalkKit
import Derived.WideShapes
set_option linter.unusedVariables false
set_option linter.unusedSimpArgs false
set_option linter.unnecessarySimpa false
/- Steps on typed data, for printed walks. -/
namespace Go.Own
open Go.RowKit

/-! ### what printed functions are made of -/
def ix {α : Type} (l : List α) (i : Int) : Option α := if 0 ≤ i then l[i.toNat]? else none
def app2 {α : Type} (bytes : Nat) (a b : List α) : Option (List α) := if a.length + b.length ≤ maxLen ∧ (a.length + b.length) * bytes ≤ 140737488355328 then some (a ++ b) else none
def bnd (len : Nat) (lo hi : Option Int) : Option (Nat × Nat) := if 0 ≤ lo.getD 0 ∧ lo.getD 0 ≤ hi.getD len ∧ hi.getD len ≤ len then some ((lo.getD 0).toNat, (hi.getD len).toNat) else none
def sub {α : Type} (l : List α) (lo hi : Option Int) : Option (List α) := (bnd l.length lo hi).map fun r => (l.drop r.1).take (r.2 - r.1)
def loopN {σ ρ : Type} (body : σ → Option (σ ⊕ ρ)) : Nat → σ → Option ρ
  | 0, _ => none
  | n + 1, s => match body s with
    | none => none
    | some (.inl s') => loopN body n s'
    | some (.inr r) => some r

theorem bind_some {α β : Type} {o : Option α} {f : α → Option β} {r : β} (h : o.bind f = some r) : ∃ a, o = some a ∧ f a = some r := Option.bind_eq_some_iff.1 h

theorem put_self {x : D} {d : Nat} {v : V} (h : x.sl d = v) : x.put d v = x := D.ext (fun i => by
  simp only [D.put]
  by_cases e : i = d
  · subst e; rw [if_pos rfl, h]
  · rw [if_neg e]) (fun _ => rfl)
section
variable {P : Program} {τ : TypeId → Option TI} {An : FuncId → FA} {F : FA} {ds : List (Option Nat)} {r : List Oper} {x : D} {K : D → Prop} {ty : TypeId} {pos : String} {after : Array Edge} {gd : Option (Nat × Bool)} {d : Nat} {Q : Ek → D → Prop}

/-! ### code -/
theorem vcOps_mono {os : List Oper} {ds : List (Option Nat)} : ∀ {x : D} {K K' : D → Prop}, (∀ x, K x → K' x) → vcOps P τ An F ds os x K → vcOps P τ An F ds os x K' := by
  induction os with
  | nil => exact fun hk h => hk _ h
  | cons o r ih =>
    intro x K K' hk h
    have h : vcOne P τ An F ds o x (fun x1 => vcOps P τ An F ds r x1 K) := h
    show vcOne P τ An F ds o x (fun x1 => vcOps P τ An F ds r x1 K')
    unfold vcOne at h ⊢
    split
    · rename_i hg
      rw [hg] at h
      simp only at h
      unfold vcRun at h ⊢
      split
      · rename_i hc
        rw [hc] at h
        rcases h with ⟨h0, f, caps, ob, ob', rr, nw, h1, h2, h3, h4, h5, h6⟩ | ⟨h0, f, rr, t, xs, l, p, x0, es, es', h1, h2, h3, h4, h5, h6, h7, h8, h9⟩
        · exact .inl ⟨h0, f, caps, ob, ob', rr, nw, h1, h2, h3, h4, h5, ih hk h6⟩
        · exact .inr ⟨h0, f, rr, t, xs, l, p, x0, es, es', h1, h2, h3, h4, h5, h6, h7, h8, ih hk h9⟩
      · rename_i hc
        rw [hc] at h
        obtain ⟨x1, h1, h2⟩ := h
        exact ⟨x1, h1, ih hk h2⟩
    · rename_i hg
      rw [hg] at h
      exact ih hk h
    · rename_i hg
      rw [hg] at h
      exact h.elim
theorem vcC_mono {c : Code} : ∀ {x : D} {M N : Ek → D → Prop}, (∀ e x, M e x → N e x) → vcC P τ An F c x M → vcC P τ An F c x N := by
  induction c with
  | seq a b iha ihb =>
    intro x M N hmn h
    refine iha (fun e x he => ?_) h
    cases e with
    | n => exact ihb hmn he
    | r => exact hmn _ _ he
    | e i => exact hmn _ _ he
  | cond c a b iha ihb =>
    intro x M N hmn h
    obtain ⟨t, h0, h1, h2⟩ := h
    exact ⟨t, h0, fun e => iha hmn (h1 e), fun e => ihb hmn (h2 e)⟩
  | block id c ih => exact fun hmn h => ih (fun e x he => hmn _ _ he) h
  | loop c _ => exact fun hmn ⟨e, x', h1, h2⟩ => ⟨e, x', h1, hmn _ _ h2⟩
  | region id ops dr =>
    intro x M N hmn h
    rcases h with ⟨h0, h⟩ | ⟨x1, h1, h2⟩
    · exact .inl ⟨h0, vcOps_mono (fun x hx => hmn _ _ hx) h⟩
    · exact .inr ⟨x1, h1, hmn _ _ h2⟩
  | skip => exact fun hmn h => hmn _ _ h
  | label => exact fun hmn h => hmn _ _ h
  | exit => exact fun hmn h => hmn _ _ h
  | ret => exact fun hmn h => hmn _ _ h
  | _ => exact fun _ h => h.elim

theorem c_block {id : Nat} {c : Code} (h : vcC P τ An F c x (blkD id Q)) : vcC P τ An F (.block id c) x Q := h

/-- A loop, told by a function with fuel. -/
theorem Wd.loopN {σ ρ : Type} {body : σ → Option (σ ⊕ ρ)} {c : Code} (Rel : σ → D → Prop) (Fin : ρ → Ek → D → Prop)
    (hb : ∀ s o x, Rel s x → body s = some o → vcC P τ An F c x (fun e x' => match o with | .inl s' => e = .n ∧ Rel s' x' | .inr r => e ≠ .n ∧ Fin r e x')) :
    ∀ {n : Nat} {s : σ} {q : ρ} {x : D}, loopN body n s = some q → Rel s x → (∀ e x', Fin q e x' → Q e x') → vcC P τ An F (.loop c) x Q := by
  intro n
  induction n with
  | zero => intro s q x h; cases h
  | succ n ih =>
    intro s q x h hr hq
    unfold Own.loopN at h
    cases hs : body s with
    | none => rw [hs] at h; cases h
    | some o =>
      rw [hs] at h
      obtain ⟨e, x1, h1, h2⟩ := vcC_ok (hb s o x hr hs)
      cases o with
      | inl s' =>
        obtain ⟨rfl, h2⟩ := h2
        obtain ⟨e2, x2, q1, q2⟩ := ih h h2 hq
        exact ⟨e2, x2, .loopN h1 q1, q2⟩
      | inr r =>
        cases h
        exact ⟨e, x1, .loopX h1 h2.1, hq _ _ h2.2⟩

/-! ### operations -/
theorem mv {y : Operand} {v : V} (hg : guardD ds x gd = some true) (hv : ev x.sl y = v) (hq : (!(mem d F.al) && thereV v && fits v (F.shOf d)) = true) (h : vcOps P τ An F ds r (x.put d v) K) : vcOps P τ An F ds (⟨some d, .move y, ty, pos, after, gd⟩ :: r) x K := by
  simp only [Bool.and_eq_true, Bool.not_eq_true'] at hq
  exact s_move hg hq.1.1 hv hq.1.2 hq.2 h
theorem asg {y : Operand} {v : V} (hg : guardD ds x gd = some true) (hv : ev x.sl y = v) (hq : (thereV v && fits v (F.shOf d)) = true) (h : vcOps P τ An F ds r (x.put d v) K) : vcOps P τ An F ds (⟨some d, .assign y, ty, pos, after, gd⟩ :: r) x K := by
  simp only [Bool.and_eq_true] at hq
  exact s_assign hg hv hq.1 hq.2 h
theorem pk {c y z : Operand} {b : Bool} {t : T} (hg : guardD ds x gd = some true) (hc : ev x.sl c = .one (.c (.bool b))) (hv : ev x.sl (bif b then y else z) = .one (.c t)) (hq : (scal t && fits (.one (.c t)) (F.shOf d)) = true) (h : vcOps P τ An F ds r (x.put d (.one (.c t))) K) : vcOps P τ An F ds (⟨some d, .pick c y z, ty, pos, after, gd⟩ :: r) x K := by
  simp only [Bool.and_eq_true] at hq
  refine s_pick hg hc ?_ hq.1 hq.2 h
  cases b <;> exact hv
theorem rd {op : Op} (w : T) (hg : guardD ds x gd = some true) (hc : calleeV ⟨some d, op, ty, pos, after, gd⟩ = none) (hd : dOp τ F x ⟨some d, op, ty, pos, after, gd⟩ = dRead τ F x d op) (hr : readV τ (evD x) op = some w) (hf : fits (.one (.c w)) (F.shOf d) = true) (h : vcOps P τ An F ds r (x.put d (.one (.c w))) K) :
    vcOps P τ An F ds (⟨some d, op, ty, pos, after, gd⟩ :: r) x K := s_read hg hc hd hr hf h
theorem ln {α : Type} {L : List α} {f : α → List T} {y : Operand} {t e : TypeId} (hg : guardD ds x gd = some true) (ht : tk τ t = some (.sl e)) (hv : evD x y = .one (.c (.sl (L.map f)))) (hf : fits (.one (.c (.int .i64 0))) (F.shOf d) = true) (h : vcOps P τ An F ds r (x.put d (.one (.c (.int .i64 L.length)))) K) :
    vcOps P τ An F ds (⟨some d, .call { callee := .builtin .len, args := #[y], argTypes := #[t] }, ty, pos, after, gd⟩ :: r) x K := s_len hg ht hv hf (by simpa using h)
theorem ixa {α : Type} {L : List α} {f : α → List T} {a : α} {t e : TypeId} {ei : TI} {v i : Operand} {row : List T} {k : IntKind} {n : Int} (hix : ix L n = some a) (hg : guardD ds x gd = some true) (ht : tk τ t = some (.sl e)) (he : τ e = some ei) (hv : ev x.sl v = .one (.c (.sl (L.map f)))) (hi : ev x.sl i = .one (.c (.int k n))) (hrow : f a = row) (hsz : row.length = ei.size)
    (hf : fits (.one (.cp row)) (F.shOf d) = true) (h : vcOps P τ An F ds r (x.put d (.one (.cp row))) K) : vcOps P τ An F ds (⟨some d, .indexAddr t v i, ty, pos, after, gd⟩ :: r) x K := by
  unfold ix at hix
  split at hix <;> try cases hix
  rename_i h0
  exact s_index hg ht he hv hi h0 (by rw [List.getElem?_map, hix, Option.map_some, hrow]) hsz hf h
theorem ldc {t : TypeId} {v : Operand} {ti : TI} {xs : List T} {w : V} (hg : guardD ds x gd = some true) (ht : τ t = some ti) (hv : ev x.sl v = .one (.cp xs)) (hl : loadV ti xs = some w) (hf : fits w (F.shOf d) = true) (h : vcOps P τ An F ds r (x.put d w) K) :
    vcOps P τ An F ds (⟨some d, .load t v, ty, pos, after, gd⟩ :: r) x K := s_loadc hg ht hv hl hf h
theorem ldo {t : TypeId} {v : Operand} {ti : TI} {ob p : Nat} {cells : List T} {w : V} (hg : guardD ds x gd = some true) (ht : τ t = some ti) (hm : mem d F.al = false) (hv : ev x.sl v = .one (.ptr ob p)) (hc : x.ob ob = some cells) (hl : loadV ti (cells.drop p) = some w) (hf : fits w (F.shOf d) = true) (h : vcOps P τ An F ds r (x.put d w) K) :
    vcOps P τ An F ds (⟨some d, .load t v, ty, pos, after, gd⟩ :: r) x K := s_loado hg ht hm hv hc hl hf h
theorem sto {t : TypeId} {v y : Operand} {ti : TI} {ob p : Nat} {cells xs cs : List T} (hg : guardD ds x gd = some true) (ht : τ t = some ti) (hv : ev x.sl v = .one (.ptr ob p)) (hy : cellsOfV (ev x.sl y) = some xs) (hc : x.ob ob = some cells) (hq : (Nat.beq xs.length ti.size && Nat.ble (p + xs.length) cells.length && confs cs (F.obOf ob)) = true) (hcs : cells.take p ++ xs ++ cells.drop (p + xs.length) = cs) (h : vcOps P τ An F ds r (x.setO ob cs) K) :
    vcOps P τ An F ds (⟨none, .store t v y, ty, pos, after, gd⟩ :: r) x K := by
  subst hcs
  refine step_run hg rfl ?_ h
  show (match τ t, ev x.sl v, cellsOfV (ev x.sl y) with
      | some i, .one (.ptr ob p), some xs => dStoreO F x i ob p xs
      | some i, .one (.pp l p n j), some xs => dStoreP F x i l p n j xs
      | _, _, _ => none) = _
  rw [ht, hv, hy]
  simp only [dStoreO, hc, hq, cond_true]
/-- Any other. -/
theorem gen {o : Oper} {x1 : D} (hg : guardD ds x o.guard = some true) (hc : calleeV o = none) (h1 : dOp τ F x o = some x1) (h : vcOps P τ An F ds r x1 K) : vcOps P τ An F ds (o :: r) x K := step_run hg hc h1 h
theorem lit {α : Type} {L : List α} {f : α → List T} {t e : TypeId} {n : Nat} {parts : Array (Nat × Operand)} {ei : TI} {es : List (List T)} (hg : guardD ds x gd = some true) (ht : tk τ t = some (.sl e)) (he : τ e = some ei) (hes : cellsAll ((parts.toList.map (·.2)).map (ev x.sl)) = some es) (hL : L.map f = es)
    (hq : (partsOk 0 parts.toList && Nat.beq n parts.toList.length && es.all (fun e => Nat.beq e.length ei.size) && Nat.ble (n * ei.size) 16777216) = true) (hf : fits (.one (.c (.sl []))) (F.shOf d) = true) (h : vcOps P τ An F ds r (x.put d (.one (.c (.sl (L.map f))))) K) :
    vcOps P τ An F ds (⟨some d, .buildSlice t n parts, ty, pos, after, gd⟩ :: r) x K := by
  rw [hL] at h
  refine step_run hg rfl ?_ h
  show dLit τ F x d t n parts = _
  unfold dLit
  simp only [ht, he, hes, hq, cond_true]
  exact putD_eq (by
    revert hf
    cases F.shOf d with
    | tup ws => simp [fits]
    | one w => cases w <;> simp [fits, fitsW]
               rename_i z; cases z <;> simp [conf])
theorem apd {α : Type} {L1 L2 L3 : List α} {f : α → List T} {b : Nat} {t u e : TypeId} {ei : TI} {v y : Operand} {es2 : List (List T)} (hap : app2 b L1 L2 = some L3) (hg : guardD ds x gd = some true) (ht : tk τ t = some (.sl e)) (he : τ e = some ei) (hb : ei.bytes = b) (hv : ev x.sl v = .one (.c (.sl (L1.map f)))) (hy : esOf (ev x.sl y) = some es2) (hL : es2 = L2.map f) (hu : strOrSl τ u e = true) (hsz : ∀ a, (f a).length = ei.size) (hcf : ∀ a, confs (f a) ei.zero = true)
    (hf : fits (.one (.c (.sl []))) (F.shOf d) = true) (h : vcOps P τ An F ds r (x.put d (.one (.c (.sl (L3.map f))))) K) : vcOps P τ An F ds (⟨some d, .call { callee := .builtin .append, args := #[v, y], argTypes := #[t, u] }, ty, pos, after, gd⟩ :: r) x K := by
  subst hL; subst hb
  unfold app2 at hap
  split at hap <;> try cases hap
  rename_i hle
  refine s_append hg ht he hv hy hu ?_ hf (by simpa using h)
  simp only [appOk, Bool.and_eq_true, List.all_eq_true, List.mem_map, List.length_map]
  exact ⟨⟨⟨fun e he => by obtain ⟨a, _, rfl⟩ := he; rw [hsz]; exact Nat.beq_refl _, fun e he => by obtain ⟨a, _, rfl⟩ := he; exact hcf a⟩, Nat.ble_eq_true_of_le hle.1⟩, Nat.ble_eq_true_of_le hle.2⟩
theorem mks {α : Type} {z : α} {f : α → List T} {t e : TypeId} {ei : TI} {v y : Operand} {n : Int} {k k' : IntKind} (hn : 0 ≤ n ∧ n ≤ maxLen ∧ ei.bytes * n ≤ 281474976710656) (hg : guardD ds x gd = some true) (ht : tk τ t = some (.sl e)) (he : τ e = some ei) (hv : ev x.sl v = .one (.c (.int k n))) (hy : ev x.sl y = .one (.c (.int k' n))) (hz : f z = ei.zero) (hf : fits (.one (.c (.sl []))) (F.shOf d) = true) (h : vcOps P τ An F ds r (x.put d (.one (.c (.sl ((List.replicate n.toNat z).map f))))) K) :
    vcOps P τ An F ds (⟨some d, .makeSlice t v y, ty, pos, after, gd⟩ :: r) x K := by
  refine step_run hg rfl ?_ h
  show dMake τ F x d t v y = _
  unfold dMake
  simp only [ht, he, hv, hy]
  rw [if_pos ⟨trivial, hn⟩, List.map_replicate, hz]
  exact putD_eq (by
    revert hf
    cases F.shOf d with
    | tup ws => simp [fits]
    | one w => cases w <;> simp [fits, fitsW]
               rename_i z; cases z <;> simp [conf])

/-! ### calls -/
theorem call_put {d : Nat} {y : D} {v : V} (h : (y.sl 0).to (outN [] none) = v) : x.call (some d) none [] y = x.put d v := D.ext (fun i => by
  simp only [D.call, D.put, Option.some.injEq, h]
  by_cases e : d = i
  · rw [if_pos e, if_pos e.symm]
  · rw [if_neg e, if_neg (fun h => e h.symm)]) (fun o => by simp [D.call, innN])
theorem call_put1 {d o : Nat} {y : D} {v : V} {cs : List T} (h : (y.sl 0).to (outN [o] none) = v) (h2 : y.ob par = some cs) : x.call (some d) none [o] y = (x.put d v).setO o cs := D.ext (fun i => by
  simp only [D.call, D.put, D.setO, Option.some.injEq, h]
  by_cases e : d = i
  · rw [if_pos e, if_pos e.symm]
  · rw [if_neg e, if_neg (fun h => e h.symm)]) (fun i => by
  simp only [D.call, D.put, D.setO, innN, List.mem_singleton]
  by_cases e : i = o
  · subst e; simp [List.idxOf, List.findIdx, List.findIdx.go, h2]
  · simp [e])
/-- A call that is handed no objects. -/
theorem cl0 {caps : List (Nat × Nat)} {c : Call} {v : Operand} {f : FuncId} {vs : List V} {rr v' : V} (hB : Big P τ An (.fn f vs [] rr none [] none)) (hg : guardD ds x gd = some true) (hc : calleeV ⟨some d, .call c, ty, pos, after, gd⟩ = some (c, v)) (hx : ev x.sl v = .one (.fn f caps)) (hth : c.args.toList.all (fun v => thereV (ev x.sl v)) = true) (hos : osOf F c v = []) (hnd : ndOf F (some d) = none)
    (hvs : inV x c caps [] = vs) (hv' : rr.to (outN [] none) = v') (hf : fits v' (F.shOf d) = true) (h : vcOps P τ An F ds r (x.put d v') K) : vcOps P τ An F ds (⟨some d, .call c, ty, pos, after, gd⟩ :: r) x K := by
  have hcp : x.call (some d) none [] (DR rr none [] none) = x.put d v' := call_put hv'
  refine step_call (x1 := x.put d v') (ob := []) hg hc (ioArg_no hos (by simp)) hx hth (by rw [hos]; rfl) (by rw [hos]; exact hvs) hB ?_ ?_ h
  · show x.call (some d) (ndOf F (some d)) (osOf F c v) _ = _
    rw [hos, hnd]; exact hcp
  · show callShapes F (x.put d v') (some d) (ndOf F (some d)) (osOf F c v) = true
    rw [hos, hnd]
    simp [callShapes, names, D.put, hf]
/-- A call that is handed one object. -/
theorem cl1 {caps : List (Nat × Nat)} {c : Call} {v : Operand} {f : FuncId} {vs : List V} {rr v' : V} {o : Nat} {cs cs' : List T} (hB : Big P τ An (.fn f vs [cs] rr none [cs'] none)) (hg : guardD ds x gd = some true) (hc : calleeV ⟨some d, .call c, ty, pos, after, gd⟩ = some (c, v)) (hx : ev x.sl v = .one (.fn f caps)) (hth : c.args.toList.all (fun v => thereV (ev x.sl v)) = true) (hos : osOf F c v = [o]) (hnd : ndOf F (some d) = none)
    (hob : x.ob o = some cs) (hvs : inV x c caps [o] = vs) (hv' : rr.to (outN [o] none) = v') (hf : (fits v' (F.shOf d) && confs cs' (F.obOf o)) = true) (h : vcOps P τ An F ds r ((x.put d v').setO o cs') K) : vcOps P τ An F ds (⟨some d, .call c, ty, pos, after, gd⟩ :: r) x K := by
  simp only [Bool.and_eq_true] at hf
  have hcp : x.call (some d) none [o] (DR rr none [cs'] none) = (x.put d v').setO o cs' := call_put1 hv' (by simp [DR])
  refine step_call (x1 := (x.put d v').setO o cs') (ob := [cs]) hg hc (ioArg_no hos (by simp)) hx hth (by rw [hos]; simp [hob]) (by rw [hos]; exact hvs) hB ?_ ?_ h
  · show x.call (some d) (ndOf F (some d)) (osOf F c v) _ = _
    rw [hos, hnd]; exact hcp
  · show callShapes F ((x.put d v').setO o cs') (some d) (ndOf F (some d)) (osOf F c v) = true
    rw [hos, hnd]
    simp [callShapes, names, D.put, D.setO, hf.1, hf.2]
end
end Go.Own

/- More steps for printed walks. -/
namespace Go.Own
open Go.RowKit

def ck (b : Bool) : Option Unit := bif b then some () else none
theorem ck_of {b : Bool} {u : Unit} (h : ck b = some u) : b = true := by
 cases b with
 | true => rfl
 | false => cases h
section
variable {P : Program} {τ : TypeId → Option TI} {An : FuncId → FA} {F : FA} {ds : List (Option Nat)} {r : List Oper} {x : D} {K : D → Prop} {ty : TypeId} {pos : String} {after : Array Edge} {gd : Option (Nat × Bool)} {d : Nat} {Q : Ek → D → Prop}

theorem c_ct {c : Operand} {a b : Code} (hc : ev x.sl c = .one (.c (.bool true))) (h : vcC P τ An F a x Q) : vcC P τ An F (.cond c a b) x Q := ⟨true, hc, fun _ => h, nofun⟩
theorem c_cf {c : Operand} {a b : Code} (hc : ev x.sl c = .one (.c (.bool false))) (h : vcC P τ An F b x Q) : vcC P τ An F (.cond c a b) x Q := ⟨false, hc, nofun, fun _ => h⟩
def isP : V → Bool
 | .one (.ptr _ _) => true
 | .one (.cp _) => true
 | .one (.fn _ _) => true
 | .one (.pp _ _ _ _) => true
 | _ => false
theorem nlc {v : Operand} {w : V} (hg : guardD ds x gd = some true) (hv : ev x.sl v = w) (hp : isP w = true) (hf : fits w (F.shOf d) = true) (h : vcOps P τ An F ds r (x.put d w) K) : vcOps P τ An F ds (⟨some d, .nilCheck v, ty, pos, after, gd⟩ :: r) x K := by
 refine step_run hg rfl ?_ h
 show dNil F x d v = _
 unfold dNil
 rw [hv]
 unfold isP at hp
 split at hp <;> first | exact putD_eq hf | cases hp
theorem fld {s : TypeId} {v : Operand} {f : Nat} {fs : List (Nat × Nat × Bool)} {q : Nat × Nat × Bool} {w u : V} (hg : guardD ds x gd = some true) (ht : tk τ s = some (.struct fs)) (hq : fs[f]? = some q) (hv : ev x.sl v = w) (hw : fieldV (q.1, q.2.1) w = some u) (hf : fits u (F.shOf d) = true) (h : vcOps P τ An F ds r (x.put d u) K) : vcOps P τ An F ds (⟨some d, .fieldAddr s v f, ty, pos, after, gd⟩ :: r) x K := by
 refine step_run hg rfl ?_ h
 show dField τ F x d s v f = _
 unfold dField
 simp only [ht, hq, hv, hw]
 exact putD_eq hf
theorem alc {t : TypeId} {i : TI} {cs : List T} (hg : guardD ds x gd = some true) (ht : τ t = some i) (hz : i.zero = cs) (hc : confs cs (F.obOf d) = true) (h : vcOps P τ An F ds r ((x.put d (.one (.ptr d 0))).setO d cs) K) : vcOps P τ An F ds (⟨some d, .alloc t, ty, pos, after, gd⟩ :: r) x K := by
 subst hz
 refine step_run hg rfl ?_ h
 show dAlloc τ F x d t = _
 unfold dAlloc
 simp only [ht, hc, cond_true]
theorem bx {e : TypeId} {t : Nat} {xs : List T} {w : V} (hg : guardD ds x gd = some true) (hv : x.sl t = w) (hw : cellsOfV w = some xs) (hc : confs xs (F.obOf d) = true) (h : vcOps P τ An F ds r ((x.put d (.one (.ptr d 0))).setO d xs) K) : vcOps P τ An F ds (⟨some d, .box e (.tmp t), ty, pos, after, gd⟩ :: r) x K := by
 refine step_run hg rfl ?_ h
 show dBox F x d (.tmp t) = _
 unfold dBox
 simp only [hv, hw, hc, cond_true]
theorem bld {t : TypeId} {ti : TI} {fs : List (Nat × Nat × Bool)} {parts : Array (Nat × Operand)} {rs : List T} (hg : guardD ds x gd = some true) (ht : τ t = some ti) (hk : ti.kind = .struct fs) (hb : buildT fs ti.zero (parts.toList.map fun p => (p.1, ev x.sl p.2)) = some rs) (hf : fits (.one (.ag rs)) (F.shOf d) = true) (h : vcOps P τ An F ds r (x.put d (.one (.ag rs))) K) : vcOps P τ An F ds (⟨some d, .build t parts, ty, pos, after, gd⟩ :: r) x K := by
 refine step_run hg rfl ?_ h
 show dBuild τ F x d t parts = _
 unfold dBuild
 simp only [ht, hk, hb]
 exact putD_eq hf
theorem ext {k t : Nat} {ws : List W} {w : W} (hg : guardD ds x gd = some true) (hv : x.sl t = .tup ws) (hw : ws[k]? = some w) (hf : fits (.one w) (F.shOf d) = true) (h : vcOps P τ An F ds r (x.put d (.one w)) K) : vcOps P τ An F ds (⟨some d, .extract (.tmp t) k, ty, pos, after, gd⟩ :: r) x K := by
 refine step_run hg rfl ?_ h
 show dExtract F x d k (.tmp t) = _
 unfold dExtract
 simp only [hv, hw]
 exact putD_eq hf
theorem mkf {f : FuncId} {caps : Array Operand} {cs : List (Nat × Nat)} (hg : guardD ds x gd = some true) (hc : capsOf (caps.toList.map (ev x.sl)) = some cs) (hf : fits (.one (.fn f cs)) (F.shOf d) = true) (h : vcOps P τ An F ds r (x.put d (.one (.fn f cs))) K) : vcOps P τ An F ds (⟨some d, .makeFunc (.func f) #[] caps, ty, pos, after, gd⟩ :: r) x K := by
 refine step_run hg rfl ?_ h
 show (bif (#[] : Array Operand).isEmpty then dFunc F x d f caps else none) = _
 show dFunc F x d f caps = _
 unfold dFunc
 simp only [hc]
 exact putD_eq hf
end
end Go.Own

/- Laws of loops and of what printed functions are made of. -/
namespace Go.Own
open Go.RowKit

theorem wrap_i64 {n : Int} (h0 : -9223372036854775808 ≤ n) (h1 : n ≤ 9223372036854775807) : IntKind.wrap .i64 n = n := by
 rw [IntKind.wrap_i64]; omega

theorem cell_lt {w : World} {a : Addr} {v : Value} (h : w.cell? a = some v) : a.block < w.heap.size ∧ a.spot = none := by
 unfold World.cell? at h
 split at h
 ·rename_i c _ _ hc
  split at h
  ·cases h
  ·rename_i hs
   refine ⟨(Array.getElem?_eq_some_iff.1 hc).1, ?_⟩
   cases hsp : a.spot with
   | none => rfl
   | some x => rw [hsp] at hs; simp at hs
 ·cases h

theorem one_sg {P : Program} {τ : TypeId → Option TI} {An : FuncId → FA} {Sgs : FuncId → List Sg} {f : FuncId} {sg0 sg : Sg} {fn0 : Func} (h : fnC τ An Sgs f sg0 fn0 (fn0.body.getD .skip) = true) (hf : P.funcs[f]? = some fn0) (hs : sg ∈ [sg0]) : ∀ fn c, P.funcs[f]? = some fn → fn.body = some c → fnC τ An Sgs f sg fn c = true := by
 intro fn c h1 h2
 rw [hf] at h1
 cases h1
 rw [List.mem_singleton] at hs
 subst hs
 rw [h2] at h
 exact h
end Go.Own

/- What a row's arguments read, as typed data. -/
namespace Go.Own
open Go.RowKit

/-- Cells that read so, with nobody owning them. -/
def CR (w : World) (cs : List Value) (xs : List T) : Prop := cs.length = xs.length ∧ ∀ (j : Nat) c y, cs[j]? = some c → xs[j]? = some y → nagg c ∧ Rd (frz G.old w) w c y

theorem CR.nil {w : World} {cs : List Value} (h : cs.length = 0) : CR w cs [] := ⟨h, fun j c y _ h => by simp at h⟩
theorem CR.cons {w : World} {cs : List Value} {off size : Nat} {xs ys : List T} (hs : xs.length = size) (h : CR w ((cs.drop off).take size) xs) (r : CR w (cs.drop (off + size)) ys) : CR w (cs.drop off) (xs ++ ys) := by
 obtain ⟨h1, h2⟩ := h
 obtain ⟨r1, r2⟩ := r
 simp only [List.length_take, List.length_drop] at h1
 rw [List.length_drop] at r1
 refine ⟨by rw [List.length_drop, List.length_append]; omega, fun j c y hc hy => ?_⟩
 by_cases hj : j < size
 ·rw [List.getElem?_append_left (by omega)] at hy
  exact h2 j c y (by rw [List.getElem?_take, if_pos hj]; exact hc) hy
 ·rw [List.getElem?_append_right (by omega)] at hy
  refine r2 (j - size) c y ?_ (by rw [← hs]; exact hy)
  rw [List.getElem?_drop] at hc ⊢
  rw [show off + size + (j - size) = off + j by omega]; exact hc
theorem CR.one {w : World} {c : Value} {y : T} (hn : nagg c) (h : Rd (frz G.old w) w c y) : CR w [c] [y] := ⟨rfl, fun j c' y' hc hy => by
 cases j with
 | zero => simp only [List.getElem?_cons_zero, Option.some.injEq] at hc hy; subst hc; subst hy; exact ⟨hn, h⟩
 | succ j => simp at hc⟩

/-- Whatever is read of a type, with such fuel, is told so. -/
def OpF (P : Program) (n : Nat) (t : TypeId) {α : Type} (f : α → List T) (ok : α → Prop) : Prop := ∀ {H : Type} (enc : TypeId × Value → H) (w : World) (base : Nat) (spare : Nat → Bool) (held : Bool) (cs : List Value) (x : DataW H × List MemPlace),
 DataW.trod enc P w base spare held n t cs = some x → ∃ a, CR w cs (f a) ∧ ok a

section
variable {P : Program} {t e : TypeId}

theorem OpF.zero {α : Type} {f : α → List T} {ok : α → Prop} : OpF P 0 t f ok := fun _ _ _ _ _ _ _ h => by simp [DataW.trod] at h
theorem OpF.int {n : Nat} {k : IntKind} (ht : P.underlying t = some (.int k)) : OpF P n t (fun a : Int => [.int k a]) (fun a => k.min ≤ a ∧ a ≤ k.max) := fun enc w base spare held cs x h => by
 obtain ⟨a, rfl, _, hw⟩ := DataW.trod_int ht h
 refine ⟨a, .one ⟨nofun, nofun⟩ (.int k a), ?_⟩
 unfold Lit.wf at hw
 simp only [Bool.and_eq_true, decide_eq_true_eq] at hw
 exact hw
theorem OpF.str {n : Nat} (ht : P.underlying t = some .string) : OpF P n t (fun a : List UInt8 => [.str a]) (fun a => a.length ≤ maxLen) := fun enc w base spare held cs x h => by
 obtain ⟨a, rfl, _, hw⟩ := DataW.trod_string ht h
 exact ⟨a.data.toList, .one ⟨nofun, nofun⟩ (.str a), by show a.data.toList.length ≤ maxLen; rw [Array.length_toList]; exact hw⟩
theorem OpF.bool {n : Nat} (ht : P.underlying t = some .bool) : OpF P n t (fun a : Bool => [.bool a]) (fun _ => True) := fun enc w base spare held cs x h => by
 have : ∃ b, cs = [.bool b] := by
  cases n with
  | zero => simp [DataW.trod] at h
  | succ n =>
   unfold DataW.trod at h
   rw [ht] at h
   split at h <;> simp_all
 obtain ⟨b, rfl⟩ := this
 exact ⟨b, .one ⟨nofun, nofun⟩ (.bool b), trivial⟩
theorem OpF.slice {n s : Nat} {α : Type} {f : α → List T} {ok : α → Prop} (ht : P.underlying t = some (.slice e)) (hc : P.cellsOf e = s) (hs : 0 < s) (hf : ∀ a, (f a).length = s) (h : OpF P n e f ok) : OpF P (n + 1) t (fun l : List α => [.sl (l.map f)]) (fun l => l.length ≤ maxLen ∧ ∀ a ∈ l, ok a) := fun enc w base spare held cs x hx => by
 rcases DataW.trod_slice ht hx with ⟨rfl, _⟩ | ⟨a, len, cap, elems, rest, m, hm, rfl, _, hb, hl, hcap, hlen, hel, _, _⟩
 ·exact ⟨[], .one ⟨nofun, nofun⟩ (.nil _ _), by simp, by simp⟩
 ·have hm : m = n := by omega
  subst hm
  have each : ∀ i, i < len → ∃ cs' a', w.cells? base (a.add (i * s)) s = some cs' ∧ CR w cs' (f a') ∧ ok a' := fun i hi => by
   have h1 := hel i hi
   rw [hc, List.getElem?_eq_getElem (by omega)] at h1
   obtain ⟨cs', h2, h3⟩ := Option.bind_eq_some_iff.1 h1
   obtain ⟨a', h4, h5⟩ := h enc w base spare held cs' _ h3
   exact ⟨cs', a', h2, h4, h5⟩
  have hl2 : ∃ L : List α, L.length = len ∧ ∀ (i : Nat) a', L[i]? = some a' → (∃ cs', w.cells? base (a.add (i * s)) s = some cs' ∧ CR w cs' (f a')) ∧ ok a' := by
   have : ∀ k, k ≤ len → ∃ L : List α, L.length = k ∧ ∀ (i : Nat) a', L[i]? = some a' → (∃ cs', w.cells? base (a.add (i * s)) s = some cs' ∧ CR w cs' (f a')) ∧ ok a' := by
    intro k
    induction k with
    | zero => exact fun _ => ⟨[], rfl, fun i a' h => by simp at h⟩
    | succ k ih =>
     intro hk
     obtain ⟨L, h1, h2⟩ := ih (by omega)
     obtain ⟨cs', a', h3, h4, h5⟩ := each k (by omega)
     refine ⟨L ++ [a'], by simp [h1], fun i b hb => ?_⟩
     by_cases hi : i < L.length
     ·rw [List.getElem?_append_left hi] at hb
      exact h2 i b hb
     ·rw [List.getElem?_append_right (by omega)] at hb
      have hi0 : i - L.length = 0 := by
       rcases Nat.eq_zero_or_pos (i - L.length) with h | h
       ·exact h
       ·rw [List.getElem?_eq_none (by simp; omega)] at hb; cases hb
      rw [hi0] at hb
      simp only [List.getElem?_cons_zero, Option.some.injEq] at hb
      subst hb
      have : i = k := by omega
      subst this
      exact ⟨⟨cs', h3, h4⟩, h5⟩
   exact this len (Nat.le_refl _)
  obtain ⟨L, hL, hLi⟩ := hl2
  refine ⟨L, .one ⟨nofun, nofun⟩ ?_, ?_, fun b hb => ?_⟩
  ·cases len with
   | zero =>
    have : L = [] := List.eq_nil_of_length_eq_zero hL
    subst this
    exact .nil _ _
   | succ len =>
    have cell : ∀ (i : Nat) b (j : Nat) y, L[i]? = some b → (f b)[j]? = some y → ∃ c, w.cell? ((a.add (i * s)).add j) = some c ∧ nagg c ∧ Rd (frz G.old w) w c y := fun i b j y hb hy => by
     obtain ⟨⟨cs', h1, h2, h3⟩, _⟩ := hLi i b hb
     unfold World.cells? at h1
     split at h1 <;> try cases h1
     have hj : j < s := by
      have := (List.getElem?_eq_some_iff.1 hy).1
      rw [hf] at this; exact this
     have hjc : j < cs'.length := by rw [h2, hf]; exact hj
     have h4 := mapM_some_get h1 j j (by rw [List.getElem?_range hj])
     rw [List.getElem?_eq_getElem hjc] at h4
     exact ⟨cs'[j], h4, h3 j _ y (List.getElem?_eq_getElem hjc) hy⟩
    have h0 : (0 : Nat) < L.length := by omega
    have hf0 : 0 < (f L[0]).length := by rw [hf]; exact hs
    obtain ⟨c0, h00, _⟩ := cell 0 L[0] 0 _ (List.getElem?_eq_getElem h0) (List.getElem?_eq_getElem hf0)
    obtain ⟨hbk, hsp⟩ := cell_lt h00
    have e0 : (a.add (0 * s)).add 0 = a := by simp [Addr.add]
    rw [e0] at hbk hsp
    obtain ⟨b, off, sp⟩ := a
    simp only at hsp hbk
    subst hsp
    have cell' : ∀ (i : Nat) b' (j : Nat) y, L[i]? = some b' → (f b')[j]? = some y → ∃ c, w.cell? ⟨b, off + i * s + j, none⟩ = some c ∧ nagg c ∧ Rd (frz G.old w) w c y := fun i b' j y hb' hy => by
     have := cell i b' j y hb' hy
     rwa [addr_add, addr_add] at this
    refine .sl b off (len + 1) cap s _ (fun i j => (w.cell? ⟨b, off + i * s + j, none⟩).getD undef) (by simp [hL]) hl (fun i e' he => ?_) ⟨hbk, rfl⟩ (fun i e' j y he hy => ?_) (fun i e' j y he hy => ?_)
    ·rw [List.getElem?_map, Option.map_eq_some_iff] at he
     obtain ⟨z, _, rfl⟩ := he
     exact hf z
    ·rw [List.getElem?_map, Option.map_eq_some_iff] at he
     obtain ⟨z, hz, rfl⟩ := he
     obtain ⟨c, h1, _⟩ := cell' i z j y hz hy
     simp only [h1, Option.getD_some]
    ·rw [List.getElem?_map, Option.map_eq_some_iff] at he
     obtain ⟨z, hz, rfl⟩ := he
     obtain ⟨c, h1, _, h3⟩ := cell' i z j y hz hy
     simp only [h1, Option.getD_some]
     exact h3
  ·rw [hL]; omega
  ·obtain ⟨i, hi, rfl⟩ := List.getElem_of_mem hb
   exact (hLi i _ (List.getElem?_eq_getElem hi)).2

/-- A struct's field. -/
theorem OpF.field {n m : Nat} {H : Type} {enc : TypeId × Value → H} {w : World} {base : Nat} {spare : Nat → Bool} {held : Bool} {cs : List Value} {xs : List (DataW H × List MemPlace)} {fs : Array Field} {α : Type} {f : α → List T} {ok : α → Prop} {i off size : Nat} {fd : Field}
  (hlen : xs.length = fs.size) (hf : ∀ (i : Nat) (f : Field), fs[i]? = some f → DataW.trod enc P w base spare held n f.type ((cs.drop f.offset).take (P.cellsOf f.type)) = xs[i]?) (hfd : fs[i]? = some fd) (hm : n = m) (hoff : fd.offset = off) (hsz : P.cellsOf fd.type = size) (ho : OpF P m fd.type f ok) : ∃ a, CR w ((cs.drop off).take size) (f a) ∧ ok a := by
 subst hm; subst hoff; subst hsz
 have hi : i < xs.length := by rw [hlen]; exact (Array.getElem?_eq_some_iff.1 hfd).1
 have h1 := hf i fd hfd
 rw [List.getElem?_eq_getElem hi] at h1
 exact ho enc w base spare held _ _ h1
end

theorem Rd.nowhere {Q : Nat → Prop} {w : World} {v : Value} {x : T} (h : Rd Q w v x) (hs : Own.scal x = true) : Rd (fun _ => False) w v x := by
 cases h with
 | int => exact .int _ _
 | bool => exact .bool _
 | np => exact .np
 | str => exact .str _
 | _ => cases hs
end Go.Own

/- Steps at elements of slices that are turned in place. -/
namespace Go.Own
open Go.RowKit

section
variable {P : Program} {τ : TypeId → Option TI} {An : FuncId → FA} {F : FA} {ds : List (Option Nat)} {r : List Oper} {x : D} {K : D → Prop} {ty : TypeId} {pos : String} {after : Array Edge} {gd : Option (Nat × Bool)} {d : Nat}

theorem als {t : Nat} {es : List (List T)} (hg : guardD ds x gd = some true) (hm : mem d F.al = true) (hv : x.sl t = .one (.c (.sl es))) (hf : fits (.one (.al (.s t 0 0) [])) (F.shOf d) = true) (h : vcOps P τ An F ds r (x.put d (.one (.al (.s t 0 0) []))) K) : vcOps P τ An F ds (⟨some d, .move (.tmp t), ty, pos, after, gd⟩ :: r) x K := by
 refine step_run hg rfl ?_ h
 show (bif mem d F.al then dAlias F x d (.tmp t) else dMove F x d (.tmp t)) = _
 rw [hm]
 show dAlias F x d (.tmp t) = _
 unfold dAlias
 simp only [hv]
 exact putD_eq hf
theorem ixp {α : Type} {L : List α} {f : α → List T} {a : α} {t e : TypeId} {ei : TI} {v i : Operand} {l : Loc} {k : IntKind} {n : Int} (hix : ix L n = some a) (hg : guardD ds x gd = some true) (ht : tk τ t = some (.sl e)) (he : τ e = some ei) (hv : ev x.sl v = .one (.al l [])) (hr : x.at l = some (.sl (L.map f))) (hi : ev x.sl i = .one (.c (.int k n))) (hsz : (f a).length = ei.size)
  (hf : fits (.one (.pp l [] 0 0)) (F.shOf d) = true) (h : vcOps P τ An F ds r (x.put d (.one (.pp l [] n.toNat 0))) K) : vcOps P τ An F ds (⟨some d, .indexAddr t v i, ty, pos, after, gd⟩ :: r) x K := by
 unfold ix at hix
 split at hix <;> try cases hix
 rename_i h0
 refine step_run hg rfl ?_ h
 show (bif isPpV (F.shOf d) && isSlV (ev x.sl v) then dIndexS τ F x d t v i else dIndex τ F x d t v i) = _
 rw [show (isPpV (F.shOf d) && isSlV (ev x.sl v)) = false by rw [hv]; simp [isSlV], cond_false]
 unfold dIndex
 have hrow : (L.map f)[n.toNat]? = some (f a) := by rw [List.getElem?_map, hix]; rfl
 simp only [ht, hi, hv, hr, Option.bind_some, nav, idx, he, h0, if_true, hrow, hsz, Nat.beq_refl, cond_true]
 refine putD_eq ?_
 revert hf
 cases F.shOf d with
 | tup ws => simp [fits]
 | one w => cases w <;> simp [fits, fitsW]
theorem upd_slot {t : Nat} {y z : T} (h : x.sl t = .one (.c y)) : x.upd (.s t 0 0) z = x.put t (.one (.c z)) := D.ext (fun i => by
 simp only [D.upd, slSet, D.put]
 by_cases e : i = t
 ·subst e; rw [if_pos rfl, if_pos rfl, h]; rfl
 ·rw [if_neg e, if_neg e]) (fun _ => rfl)
theorem upd_cell {o j : Nat} {cells : List T} {z : T} (h : x.ob o = some cells) : x.upd (.oc o j) z = x.setO o (cells.set j z) := D.ext (fun _ => rfl) (fun i => by
 simp only [D.upd, obSet, D.setO]
 by_cases e : i = o
 ·subst e; rw [if_pos rfl, if_pos rfl, h]; rfl
 ·rw [if_neg e, if_neg e])
theorem storeP {α : Type} {L : List α} {f : α → List T} {a v' : α} {i : Int} {t : TypeId} {v y : Operand} {ti : TI} {l : Loc} {j : Nat} {xs : List T} (hix : ix L i = some a) (ht : τ t = some ti) (hv : ev x.sl v = .one (.pp l [] i.toNat j)) (hr : x.at l = some (.sl (L.map f))) (hy : cellsOfV (ev x.sl y) = some xs) (hq : (Nat.beq xs.length ti.size && Nat.ble (j + xs.length) (f a).length) = true) (hrow : (f a).take j ++ xs ++ (f a).drop (j + xs.length) = f v') :
  dOp τ F x ⟨none, .store t v y, ty, pos, after, gd⟩ = some (x.upd l (.sl ((L.set i.toNat v').map f))) := by
 unfold ix at hix
 split at hix <;> try cases hix
 have hrw : (L.map f)[i.toNat]? = some (f a) := by rw [List.getElem?_map, hix]; rfl
 show (match τ t, ev x.sl v, cellsOfV (ev x.sl y) with
   | some i, .one (.ptr ob p), some xs => dStoreO F x i ob p xs
   | some i, .one (.pp l p n j), some xs => dStoreP F x i l p n j xs
   | _, _, _ => none) = _
 rw [ht, hv, hy]
 simp only [dStoreP, hr, nav, hrw, hq, cond_true, hrow, setAt, List.map_set]
end
end Go.Own

/- Walks in few words: what is known of the data is told by a list, and the goal carries it. -/
namespace Go.Own
open Go.RowKit

inductive SS (α : Type) where
 | nil
 | cons (i : Nat) (a : α) (r : SS α)
 | many (l : List (Nat × α)) (r : SS α)
 | drop (l : List (Nat × Nat)) (r : SS α)
/-- i lies in one of the ranges. -/
def inR (i : Nat) : List (Nat × Nat) → Bool
 | [] => false
 | p :: r => (Nat.ble p.1 i && Nat.ble i p.2) || inR i r
def SS.get {α : Type} : SS α → Nat → Option α
 | .nil, _ => none
 | .cons j a r, i => bif Nat.beq i j then some a else r.get i
 | .many l r, i => match look i l with | some a => some a | none => r.get i
 | .drop l r, i => bif inR i l then none else r.get i

def rIn (lo hi : Nat) : List (Nat × Nat) → Bool
 | [] => false
 | p :: r => (Nat.ble p.1 lo && Nat.ble hi p.2) || rIn lo hi r
def allIn (w : List (Nat × Nat)) : List (Nat × Nat) → Bool
 | [] => true
 | q :: r => rIn q.1 q.2 w && allIn w r
def keysIn {α : Type} (w : List (Nat × Nat)) : List (Nat × α) → Bool
 | [] => true
 | p :: r => inR p.1 w && keysIn w r
/-- What is left when w's are taken off. -/
def SS.strip {α : Type} (w : List (Nat × Nat)) : SS α → SS α
 | .nil => .nil
 | .cons j a r => bif inR j w then r.strip w else .cons j a r
 | .many l r => bif keysIn w l then r.strip w else .many l r
 | .drop l r => bif allIn w l then r.strip w else .drop l r

theorem rIn_in {lo hi i : Nat} (h1 : lo ≤ i) (h2 : i ≤ hi) : ∀ {w : List (Nat × Nat)}, rIn lo hi w = true → inR i w = true
 | [], h => h
 | p :: r, h => by
  simp only [rIn, Bool.or_eq_true, Bool.and_eq_true] at h
  simp only [inR, Bool.or_eq_true, Bool.and_eq_true]
  rcases h with h | h
  ·exact .inl ⟨Nat.ble_eq_true_of_le (Nat.le_trans (Nat.le_of_ble_eq_true h.1) h1), Nat.ble_eq_true_of_le (Nat.le_trans h2 (Nat.le_of_ble_eq_true h.2))⟩
  ·exact .inr (rIn_in h1 h2 h)
theorem mem_allIn {w : List (Nat × Nat)} {i : Nat} (hi : inR i w = false) : ∀ {l : List (Nat × Nat)}, allIn w l = true → inR i l = false
 | [], _ => rfl
 | q :: r, h => by
  simp only [allIn, Bool.and_eq_true] at h
  simp only [inR, mem_allIn hi h.2, Bool.or_false]
  cases e : (Nat.ble q.1 i && Nat.ble i q.2) with
  | false => rfl
  | true =>
   simp only [Bool.and_eq_true] at e
   rw [rIn_in (Nat.le_of_ble_eq_true e.1) (Nat.le_of_ble_eq_true e.2) h.1] at hi; cases hi
theorem look_keysIn {α : Type} {w : List (Nat × Nat)} {i : Nat} (hi : inR i w = false) : ∀ {l : List (Nat × α)}, keysIn w l = true → look i l = none
 | [], _ => rfl
 | (j, a) :: r, h => by
  simp only [keysIn, Bool.and_eq_true] at h
  simp only [look]
  cases e : Nat.beq i j with
  | false => exact look_keysIn hi h.2
  | true => have := Nat.eq_of_beq_eq_true e; subst this; rw [h.1] at hi; cases hi
theorem strip_get {α : Type} {w : List (Nat × Nat)} {i : Nat} (hi : inR i w = false) : ∀ s : SS α, (s.strip w).get i = s.get i
 | .nil => rfl
 | .cons j a r => by
  simp only [SS.strip]
  cases h : inR j w with
  | false => rfl
  | true =>
   simp only [cond_true, SS.get]
   rw [strip_get hi r]
   cases e : Nat.beq i j with
   | false => rfl
   | true => have := Nat.eq_of_beq_eq_true e; subst this; rw [h] at hi; cases hi
 | .many l r => by
  simp only [SS.strip]
  cases h : keysIn w l with
  | false => rfl
  | true =>
   simp only [cond_true, SS.get]
   rw [strip_get hi r, look_keysIn hi h]
 | .drop l r => by
  simp only [SS.strip]
  cases h : allIn w l with
  | false => rfl
  | true =>
   simp only [cond_true, SS.get]
   rw [strip_get hi r, mem_allIn hi h]; rfl

/-- s tells all that t tells. -/
structure LeS {α : Type} (t s : SS α) : Prop where
 get : ∀ i a, t.get i = some a → s.get i = some a
theorem lb {α : Type} {w : List (Nat × Nat)} {s0 s : SS α} (h : s.strip w = s0.strip w) : LeS (.drop w s0) s := ⟨fun i a hi => by
 simp only [SS.get] at hi
 cases hw : inR i w with
 | true => rw [hw] at hi; cases hi
 | false => rw [hw] at hi; rw [← strip_get hw s, h, strip_get hw s0]; exact hi⟩
theorem lm {α : Type} {s r : SS α} (h : LeS r s) : LeS (.many [] r) s := ⟨fun i a hi => h.get i a hi⟩
theorem lc {α : Type} {i : Nat} {a : α} {l : List (Nat × α)} {s r : SS α} (h0 : s.get i = some a) (h : LeS (.many l r) s) : LeS (.many ((i, a) :: l) r) s := ⟨fun j b hj => by
 simp only [SS.get, look] at hj
 cases e : Nat.beq j i with
 | true =>
  have := Nat.eq_of_beq_eq_true e
  subst this
  rw [Nat.beq_refl] at hj
  simp only [cond_true, Option.some.injEq] at hj
  subst hj; exact h0
 | false => rw [e] at hj; exact h.get j b (by simpa [SS.get] using hj)⟩

def gets {α : Type} (s : SS α) : List (Nat × α) → Option (List α)
 | [] => some []
 | p :: r => match s.get p.1, gets s r with
  | some a, some l => some (a :: l)
  | _, _ => none
def vals {α : Type} : List (Nat × α) → List α
 | [] => []
 | p :: r => p.2 :: vals r
theorem le_of {α : Type} {s s0 : SS α} {w : List (Nat × Nat)} (h : s.strip w = s0.strip w) : ∀ {l : List (Nat × α)}, gets s l = some (vals l) → LeS (.many l (.drop w s0)) s
 | [], _ => lm (lb h)
 | (i, a) :: r, h2 => by
  simp only [gets, vals] at h2
  split at h2 <;> try cases h2
  rename_i b l h3 h4
  exact lc h3 (le_of h h4)

structure Mt (S : SS V) (O : SS (List T)) (x : D) : Prop where
 sl : ∀ i v, S.get i = some v → x.sl i = v
 ob : ∀ o cs, O.get o = some cs → x.ob o = some cs
theorem Mt.le {S S' : SS V} {O O' : SS (List T)} {x : D} (h : Mt S O x) (h1 : LeS S' S) (h2 : LeS O' O) : Mt S' O' x := ⟨fun i v hi => h.sl i v (h1.get i v hi), fun o cs ho => h.ob o cs (h2.get o cs ho)⟩
theorem Mt.put {S : SS V} {O : SS (List T)} {x : D} (h : Mt S O x) (d : Nat) (v : V) : Mt (.cons d v S) O (x.put d v) := ⟨fun i u hi => by
 simp only [SS.get] at hi
 simp only [D.put]
 cases e : Nat.beq i d with
 | true =>
  rw [e] at hi
  simp only [cond_true, Option.some.injEq] at hi
  rw [if_pos (Nat.eq_of_beq_eq_true e)]; exact hi
 | false =>
  rw [e] at hi
  rw [if_neg (fun e2 => by subst e2; rw [Nat.beq_refl] at e; cases e)]
  exact h.sl i u hi, h.ob⟩
theorem Mt.setO {S : SS V} {O : SS (List T)} {x : D} (h : Mt S O x) (o : Nat) (cs : List T) : Mt S (.cons o cs O) (x.setO o cs) := ⟨h.sl, fun i u hi => by
 simp only [SS.get] at hi
 simp only [D.setO]
 cases e : Nat.beq i o with
 | true =>
  rw [e] at hi
  simp only [cond_true, Option.some.injEq] at hi
  rw [if_pos (Nat.eq_of_beq_eq_true e), hi]
 | false =>
  rw [e] at hi
  rw [if_neg (fun e2 => by subst e2; rw [Nat.beq_refl] at e; cases e)]
  exact h.ob i u hi⟩
/-- A slot's datum told anew by what is equal to it. -/
theorem Mt.su {S : SS V} {O : SS (List T)} {x : D} (h : Mt S O x) {d : Nat} {v u : V} (hv : S.get d = some v) (e : v = u) : Mt (.cons d u S) O x := by
 have := h.put d u
 rwa [put_self (by rw [h.sl d v hv, e])] at this

/-! ### operands -/
def evS (S : SS V) : Operand → Option V
 | .tmp t => S.get t
 | .const v => some (constV v)
 | .func f => some (.one (.fn f []))
 | .global _ => none
def atS (S : SS V) (O : SS (List T)) : Loc → Option T
 | .s i _ j => (S.get i).bind (·.leaf 0 j)
 | .oc o j => (O.get o).bind (·[j]?)
 | _ => none
/-- What is read. -/
def rdS (S : SS V) (O : SS (List T)) (y : Operand) : Option V := match evS S y with
 | some (.one (.al (.s i 0 j) [])) => match atS S O (.s i 0 j) with | some t => some (.one (.c t)) | none => none
 | some (.one (.al (.oc o j) [])) => match atS S O (.oc o j) with | some t => some (.one (.c t)) | none => none
 | some (.one (.al _ _)) => none
 | v => v
def gS (ds : List (Option Nat)) (S : SS V) : Option (Nat × Bool) → Option Bool
 | none => some true
 | some (j, want) => match ds[j]? with
  | some (some t) => (match S.get t with
   | some (.one (.c (.bool true))) => some want
   | some (.one (.c (.bool false))) => some (!want)
   | some (.tup []) => some false
   | _ => none)
  | _ => none

section
variable {S : SS V} {O : SS (List T)} {x : D}
theorem Mt.ev (h : Mt S O x) {y : Operand} {v : V} (hv : evS S y = some v) : Own.ev x.sl y = v := by
 cases y with
 | tmp t => exact h.sl t v hv
 | const c => exact Option.some.inj hv
 | func f => exact Option.some.inj hv
 | global g => cases hv
theorem Mt.at (h : Mt S O x) {l : Loc} {t : T} (hk : ∀ i k j, l = .s i k j → k = 0) (hv : atS S O l = some t) : x.at l = some t := by
 cases l with
 | s i k j =>
  have := hk i k j rfl
  subst this
  simp only [atS, Option.bind_eq_some_iff] at hv
  obtain ⟨v, h1, h2⟩ := hv
  simp only [D.at, atL, h.sl i v h1, h2]
 | oc o j =>
  simp only [atS, Option.bind_eq_some_iff] at hv
  obtain ⟨v, h1, h2⟩ := hv
  simp only [D.at, atL, h.ob o v h1, Option.bind_some, h2]
 | _ => cases hv
theorem Mt.rd (h : Mt S O x) {y : Operand} {v : V} (hv : rdS S O y = some v) : evD x y = v := by
 unfold rdS at hv
 unfold evD
 split at hv
 ·rename_i i j he
  rw [h.ev he]
  split at hv
  ·rename_i t ht
   have := h.at (l := .s i 0 j) (fun i k j e => by cases e; rfl) ht
   simp only [D.at] at this
   simp only [resV, this, Option.bind_some, nav]
   exact Option.some.inj hv
  ·cases hv
 ·rename_i o j he
  rw [h.ev he]
  split at hv
  ·rename_i t ht
   have := h.at (l := .oc o j) (fun i k j e => by cases e) ht
   simp only [D.at] at this
   simp only [resV, this, Option.bind_some, nav]
   exact Option.some.inj hv
  ·cases hv
 ·cases hv
 ·rename_i h1 h2 h3
  cases v with
  | tup ws => rw [h.ev hv]; rfl
  | one w =>
   rw [h.ev hv]
   cases w with
   | al l p => exact absurd hv (h3 l p)
   | _ => rfl
theorem Mt.gd (h : Mt S O x) {ds : List (Option Nat)} {gd : Option (Nat × Bool)} {b : Bool} (hg : gS ds S gd = some b) : guardD ds x gd = some b := by
 unfold gS at hg
 unfold guardD
 split at hg
 ·exact hg
 ·rename_i j want
  split at hg
  ·rename_i t hd
   simp only [hd]
   split at hg <;> try cases hg
   ·rename_i e; rw [h.sl t _ e]; cases b <;> rfl
   ·rename_i e; rw [h.sl t _ e]; cases want <;> rfl
   ·rename_i e; rw [h.sl t _ e]
  ·cases hg
end

/-! ### code -/
inductive Kt where
 | seq (b : Code) (k : Kt)
 | blk (id : Nat) (k : Kt)
 | top (Q : Ek → D → Prop)

section
variable (P : Program) (τ : TypeId → Option TI) (An : FuncId → FA) (F : FA)
def Kt.den : Kt → Ek → D → Prop
 | .seq b k => thenD (fun x => vcC P τ An F b x k.den) k.den
 | .blk id k => blkD id k.den
 | .top Q => Q

structure Vo (ds : List (Option Nat)) (os : List Oper) (k : Kt) (S : SS V) (O : SS (List T)) : Prop where
 run : ∀ x, Mt S O x → vcOps P τ An F ds os x (fun x1 => k.den P τ An F .n x1)
structure Vc (c : Code) (k : Kt) (S : SS V) (O : SS (List T)) : Prop where
 run : ∀ x, Mt S O x → vcC P τ An F c x (k.den P τ An F)
structure Fin' (Q : Ek → D → Prop) (e : Ek) (S : SS V) (O : SS (List T)) : Prop where
 run : ∀ x, Mt S O x → Q e x
def nxt : Kt → SS V → SS (List T) → Prop
 | .seq b k, S, O => Vc P τ An F b k S O
 | .blk _ k, S, O => nxt k S O
 | .top Q, S, O => Fin' Q .n S O
def exi : Kt → Nat → SS V → SS (List T) → Prop
 | .seq _ k, i, S, O => exi k i S O
 | .blk id k, i, S, O => bif Nat.beq i id then nxt P τ An F k S O else exi k i S O
 | .top Q, i, S, O => Fin' Q (.e i) S O
def rtn : Kt → SS V → SS (List T) → Prop
 | .seq _ k, S, O => rtn k S O
 | .blk _ k, S, O => rtn k S O
 | .top Q, S, O => Fin' Q .r S O
def aft (k : Kt) (e : Ek) (S : SS V) (O : SS (List T)) : Prop := match e with
 | .n => nxt P τ An F k S O
 | .r => rtn k S O
 | .e i => exi P τ An F k i S O
end

section
variable {P : Program} {τ : TypeId → Option TI} {An : FuncId → FA} {F : FA} {k : Kt} {S : SS V} {O : SS (List T)}
theorem nxt_ok : ∀ {k : Kt}, nxt P τ An F k S O → ∀ x, Mt S O x → k.den P τ An F .n x
 | .seq b k, h, x, hx => h.run x hx
 | .blk id k, h, x, hx => by
  show k.den P τ An F (inBlk id .n) x
  have : inBlk id .n = .n := rfl
  rw [this]; exact nxt_ok (k := k) h x hx
 | .top Q, h, x, hx => h.run x hx
theorem exi_ok {i : Nat} : ∀ {k : Kt}, exi P τ An F k i S O → ∀ x, Mt S O x → k.den P τ An F (.e i) x
 | .seq b k, h, x, hx => exi_ok (k := k) h x hx
 | .blk id k, h, x, hx => by
  show k.den P τ An F (inBlk id (.e i)) x
  simp only [exi] at h
  cases e : Nat.beq i id with
  | true =>
   have := Nat.eq_of_beq_eq_true e
   subst this
   rw [e] at h
   have : inBlk i (.e i) = .n := by simp [inBlk]
   rw [this]; exact nxt_ok h x hx
  | false =>
   rw [e] at h
   have : inBlk id (.e i) = .e i := by
    unfold inBlk
    rw [if_neg]
    intro e2
    cases e2
    rw [Nat.beq_refl] at e; cases e
   rw [this]; exact exi_ok (k := k) h x hx
 | .top Q, h, x, hx => h.run x hx
theorem rtn_ok : ∀ {k : Kt}, rtn k S O → ∀ x, Mt S O x → k.den P τ An F .r x
 | .seq b k, h, x, hx => rtn_ok (k := k) h x hx
 | .blk id k, h, x, hx => by
  show k.den P τ An F (inBlk id .r) x
  have : inBlk id .r = .r := rfl
  rw [this]; exact rtn_ok (k := k) h x hx
 | .top Q, h, x, hx => h.run x hx
theorem aft_ok {e : Ek} (h : aft P τ An F k e S O) : ∀ x, Mt S O x → k.den P τ An F e x := by
 cases e with
 | n => exact nxt_ok h
 | r => exact rtn_ok h
 | e i => exact exi_ok h

theorem cSq {a b : Code} (h : Vc P τ An F a (.seq b k) S O) : Vc P τ An F (.seq a b) k S O := ⟨fun x hx => h.run x hx⟩
theorem cSk (h : nxt P τ An F k S O) : Vc P τ An F .skip k S O := ⟨fun x hx => nxt_ok h x hx⟩
theorem cEx {i : Nat} (h : exi P τ An F k i S O) : Vc P τ An F (.exit i) k S O := ⟨fun x hx => exi_ok h x hx⟩
theorem cRt (h : rtn k S O) : Vc P τ An F .ret k S O := ⟨fun x hx => rtn_ok h x hx⟩
theorem cBk {id : Nat} {c : Code} (h : Vc P τ An F c (.blk id k) S O) : Vc P τ An F (.block id c) k S O := ⟨fun x hx => h.run x hx⟩
theorem cRg {id : Nat} {ops : List Oper} {dr : Bool} (h : Vo P τ An F (ops.map (·.dst)) ops k S O) (hm : look id F.mks = none := by exact rfl) : Vc P τ An F (.region id ops.toArray dr) k S O := ⟨fun x hx => .inl ⟨hm, h.run x hx⟩⟩
theorem cRs {id : Nat} {ops : List Oper} {dr : Bool} {b : Code} (h : Vo P τ An F (ops.map (·.dst)) ops (.seq b k) S O) (hm : look id F.mks = none := by exact rfl) : Vc P τ An F (.seq (.region id ops.toArray dr) b) k S O := ⟨fun x hx => .inl ⟨hm, h.run x hx⟩⟩
theorem cT {t : Nat} {a b : Code} (hc : S.get t = some (.one (.c (.bool true)))) (h : Vc P τ An F a k S O) : Vc P τ An F (.cond (.tmp t) a b) k S O := ⟨fun x hx => c_ct (hx.sl t _ hc) (h.run x hx)⟩
theorem cF {t : Nat} {a b : Code} (hc : S.get t = some (.one (.c (.bool false)))) (h : Vc P τ An F b k S O) : Vc P τ An F (.cond (.tmp t) a b) k S O := ⟨fun x hx => c_cf (hx.sl t _ hc) (h.run x hx)⟩
theorem cIf {ρ : Type} {A B : Option ρ} {r : ρ} {e : Bool} {t : Nat} {a b : Code} (h : (bif e then A else B) = some r) (hc : S.get t = some (.one (.c (.bool e)))) (h1 : e = true → A = some r → Vc P τ An F a k (.cons t (.one (.c (.bool true))) S) O) (h0 : e = false → B = some r → Vc P τ An F b k (.cons t (.one (.c (.bool false))) S) O) : Vc P τ An F (.cond (.tmp t) a b) k S O := by
 cases e with
 | true => exact ⟨fun x hx => c_ct (hx.sl t _ hc) ((h1 rfl h).run x (hx.su hc rfl))⟩
 | false => exact ⟨fun x hx => c_cf (hx.sl t _ hc) ((h0 rfl h).run x (hx.su hc rfl))⟩
/-! ### joins -/
abbrev Up := List (Nat × V)
abbrev Uo := List (Nat × List T)
def JQ {ρ : Type} (X : ρ → Ek × Up × Uo) (w wo : List (Nat × Nat)) (S : SS V) (O : SS (List T)) (q : ρ) (e : Ek) (x : D) : Prop := e = (X q).1 ∧ Mt (.many (X q).2.1 (.drop w S)) (.many (X q).2.2 (.drop wo O)) x
theorem eJ {ρ : Type} {X : ρ → Ek × Up × Uo} {w wo : List (Nat × Nat)} {S0 : SS V} {O0 : SS (List T)} {q0 q : ρ} {e : Ek} (h : some q0 = some q) (hl : (e, gets S (X q0).2.1, gets O (X q0).2.2, S.strip w, O.strip wo) = ((X q0).1, some (vals (X q0).2.1), some (vals (X q0).2.2), S0.strip w, O0.strip wo)) : Fin' (JQ X w wo S0 O0 q) e S O := by
 cases h
 simp only [Prod.mk.injEq] at hl
 obtain ⟨he, h1, h2, h3, h4⟩ := hl
 exact ⟨fun x hx => ⟨he, hx.le (le_of h3 h1) (le_of h4 h2)⟩⟩
/-- A region with ways that join behind it. -/
theorem oJn {ρ β : Type} {o : Option ρ} {f : ρ → Option β} {r : β} {ds : List (Option Nat)} {os : List Oper} (h : o.bind f = some r) (w wo : List (Nat × Nat)) (X : ρ → Ek × Up × Uo) (h1 : ∀ q, o = some q → Vo P τ An F ds os (.top (JQ X w wo S O q)) S O)
  (h2 : ∀ q, f q = some r → aft P τ An F k (X q).1 (.many (X q).2.1 (.drop w S)) (.many (X q).2.2 (.drop wo O))) (hn : ∀ q, (X q).1 = .n := by intro; rfl) : Vo P τ An F ds os k S O := by
 obtain ⟨q, hq, hf⟩ := bind_some h
 refine ⟨fun x hx => vcOps_mono (fun x1 hh => ?_) ((h1 q hq).run x hx)⟩
 obtain ⟨he, hm⟩ := hh
 have h3 := h2 q hf
 rw [hn q] at h3
 exact nxt_ok h3 x1 hm

/-! ### loops -/
def LQ {σ ρ : Type} (u : σ → Up × Uo) (X : ρ → Ek × Up × Uo) (w wo : List (Nat × Nat)) (S : SS V) (O : SS (List T)) (o : σ ⊕ ρ) (e : Ek) (x : D) : Prop := match o with
 | .inl s => e = .n ∧ Mt (.many (u s).1 (.drop w S)) (.many (u s).2 (.drop wo O)) x
 | .inr q => e ≠ .n ∧ e = (X q).1 ∧ Mt (.many (X q).2.1 (.drop w S)) (.many (X q).2.2 (.drop wo O)) x
theorem eL {σ ρ : Type} {u : σ → Up × Uo} {X : ρ → Ek × Up × Uo} {w wo : List (Nat × Nat)} {S0 : SS V} {O0 : SS (List T)} {s : σ} {o : σ ⊕ ρ} (h : some (.inl s) = some o) (hl : (gets S (u s).1, gets O (u s).2, S.strip w, O.strip wo) = (some (vals (u s).1), some (vals (u s).2), S0.strip w, O0.strip wo)) : Fin' (LQ u X w wo S0 O0 o) .n S O := by
 cases h
 simp only [Prod.mk.injEq] at hl
 obtain ⟨h1, h2, h3, h4⟩ := hl
 exact ⟨fun x hx => ⟨rfl, hx.le (le_of h3 h1) (le_of h4 h2)⟩⟩
theorem eX {σ ρ : Type} {u : σ → Up × Uo} {X : ρ → Ek × Up × Uo} {w wo : List (Nat × Nat)} {S0 : SS V} {O0 : SS (List T)} {q : ρ} {o : σ ⊕ ρ} {i : Nat} (h : some (.inr q) = some o) (hl : (Ek.e i, gets S (X q).2.1, gets O (X q).2.2, S.strip w, O.strip wo) = ((X q).1, some (vals (X q).2.1), some (vals (X q).2.2), S0.strip w, O0.strip wo)) : Fin' (LQ u X w wo S0 O0 o) (.e i) S O := by
 cases h
 simp only [Prod.mk.injEq] at hl
 obtain ⟨he, h1, h2, h3, h4⟩ := hl
 exact ⟨fun x hx => ⟨nofun, he, hx.le (le_of h3 h1) (le_of h4 h2)⟩⟩
theorem eXr {σ ρ : Type} {u : σ → Up × Uo} {X : ρ → Ek × Up × Uo} {w wo : List (Nat × Nat)} {S0 : SS V} {O0 : SS (List T)} {q : ρ} {o : σ ⊕ ρ} (h : some (.inr q) = some o) (hl : (.r, gets S (X q).2.1, gets O (X q).2.2, S.strip w, O.strip wo) = ((X q).1, some (vals (X q).2.1), some (vals (X q).2.2), S0.strip w, O0.strip wo)) : Fin' (LQ u X w wo S0 O0 o) .r S O := by
 cases h
 simp only [Prod.mk.injEq] at hl
 obtain ⟨he, h1, h2, h3, h4⟩ := hl
 exact ⟨fun x hx => ⟨nofun, he, hx.le (le_of h3 h1) (le_of h4 h2)⟩⟩
theorem cLp {σ ρ β : Type} {body : σ → Option (σ ⊕ ρ)} {n : Nat} {s0 : σ} {f : ρ → Option β} {r : β} {c : Code} {id : Nat} (h : (loopN body n s0).bind f = some r) (w wo : List (Nat × Nat)) (u : σ → Up × Uo) (X : ρ → Ek × Up × Uo) (hl : (gets S (u s0).1, gets O (u s0).2) = (some (vals (u s0).1), some (vals (u s0).2)))
  (hb : ∀ s o, body s = some o → Vc P τ An F c (.top (LQ u X w wo S O o)) (.many (u s).1 (.drop w S)) (.many (u s).2 (.drop wo O)))
  (hx : ∀ q, f q = some r → aft P τ An F (.blk id k) (X q).1 (.many (X q).2.1 (.drop w S)) (.many (X q).2.2 (.drop wo O))) : Vc P τ An F (.block id (.loop c)) k S O := by
 obtain ⟨q, hq, hf⟩ := bind_some h
 simp only [Prod.mk.injEq] at hl
 have hi : LeS (.many (u s0).1 (.drop w S)) S := le_of rfl hl.1
 have hio : LeS (.many (u s0).2 (.drop wo O)) O := le_of rfl hl.2
 refine ⟨fun x hx0 => c_block ?_⟩
 refine Wd.loopN (fun s x => Mt (.many (u s).1 (.drop w S)) (.many (u s).2 (.drop wo O)) x) (fun q e x => e = (X q).1 ∧ Mt (.many (X q).2.1 (.drop w S)) (.many (X q).2.2 (.drop wo O)) x) ?_ hq (hx0.le hi hio) ?_
 ·intro s o x hs ho
  refine vcC_mono (fun e x1 hh => ?_) ((hb s o ho).run x hs)
  cases o with
  | inl s' => exact hh
  | inr q => exact hh
 ·intro e x1 ⟨he, hm⟩
  subst he
  exact aft_ok (k := .blk id k) (hx q hf) x1 hm

/-! ### a function's end -/
def resS (τ : TypeId → Option TI) (S : SS V) (O : SS (List T)) : ResultVar → Option W
 | .tmp t => (match S.get t with | some (.one w) => some w | _ => none)
 | .cell t ty => (match τ ty, S.get t with
  | some i, some (.one (.ptr o p)) => (match O.get o with
   | some cells => (match loadV i (cells.drop p) with | some (.one w) => some w | _ => none)
   | none => none)
  | _, _ => none)
def resSs (τ : TypeId → Option TI) (S : SS V) (O : SS (List T)) : List ResultVar → Option (List W)
 | [] => some []
 | r :: rs => match resS τ S O r, resSs τ S O rs with
  | some w, some ws => some (w :: ws)
  | _, _ => none
theorem resS_ok {x : D} (hx : Mt S O x) {r : ResultVar} {w : W} (h : resS τ S O r = some w) : resW τ x r = some w := by
 cases r with
 | tmp t =>
  simp only [resS] at h
  split at h <;> try cases h
  rename_i e
  simp only [resW, hx.sl t _ e]
 | cell t ty =>
  simp only [resS] at h
  split at h <;> try cases h
  rename_i i o p h1 h2
  split at h <;> try cases h
  rename_i cells h3
  simp only [resW, h1, hx.sl t _ h2, hx.ob o _ h3]
  exact h
theorem resSs_ok {x : D} (hx : Mt S O x) : ∀ {rs : List ResultVar} {ws : List W}, resSs τ S O rs = some ws → resWs τ x rs = some ws
 | [], ws, h => h
 | r :: rs, ws, h => by
  simp only [resSs] at h
  split at h <;> try cases h
  rename_i w ws' h1 h2
  simp only [resWs, resS_ok hx h1, resSs_ok hx h2]
def obsS (O : SS (List T)) : Nat → List (List T) → Option (List (List T))
 | _, [] => some []
 | i, _ :: r => match O.get (par + i), obsS O (i + 1) r with
  | some cs, some css => some (cs :: css)
  | _, _ => none
theorem obsS_ok {x : D} (hx : Mt S O x) : ∀ {l : List (List T)} {i : Nat} {l' : List (List T)}, obsS O i l = some l' → obsOut x i l = some l'
 | [], i, l', h => h
 | a :: r, i, l', h => by
  simp only [obsS] at h
  split at h <;> try cases h
  rename_i cs css h1 h2
  simp only [obsOut, hx.ob _ _ h1, obsS_ok hx h2]
def nwS (O : SS (List T)) : Option Nat → Option (Option (List T))
 | none => some none
 | some o => match O.get o with | some cs => some (some cs) | none => none
def FQ (τ : TypeId → Option TI) (F : FA) (rs : List ResultVar) (ob : List (List T)) (r : V) (ob' : List (List T)) (nw : Option (List T)) (e : Ek) (x : D) : Prop := (e = .n ∨ e = .r) ∧ ∃ ws, resWs τ x rs = some ws ∧ (retV ws).to (retO F.n0) = r ∧ obsOut x 0 ob = some ob' ∧ F.n0.bind x.ob = nw
theorem eN {rs : List ResultVar} {ob ob' : List (List T)} {r : V} {nw : Option (List T)} {ws : List W} (h1 : resSs τ S O rs = some ws) (h2 : (retV ws).to (retO F.n0) = r) (h3 : obsS O 0 ob = some ob') (h4 : nwS O F.n0 = some nw) : Fin' (FQ τ F rs ob r ob' nw) .n S O := ⟨fun x hx => ⟨.inl rfl, ws, resSs_ok hx h1, h2, obsS_ok hx h3, by
 revert h4
 cases F.n0 with
 | none => intro h4; exact Option.some.inj h4
 | some o =>
  intro h4
  simp only [nwS] at h4
  split at h4 <;> try cases h4
  rename_i e
  exact hx.ob _ _ e⟩⟩
theorem eR {rs : List ResultVar} {ob ob' : List (List T)} {r : V} {nw : Option (List T)} {ws : List W} (h1 : resSs τ S O rs = some ws) (h2 : (retV ws).to (retO F.n0) = r) (h3 : obsS O 0 ob = some ob') (h4 : nwS O F.n0 = some nw) : Fin' (FQ τ F rs ob r ob' nw) .r S O := ⟨fun x hx => by
 obtain ⟨_, h⟩ := (eN (F := F) h1 h2 h3 h4).run x hx
 exact ⟨.inr rfl, h⟩⟩

def pars : Nat → List V → List (Nat × V)
 | _, [] => []
 | i, v :: r => (i, v) :: pars (i + 1) r
def parO : Nat → List (List T) → List (Nat × List T)
 | _, [] => []
 | i, v :: r => (par + i, v) :: parO (i + 1) r
theorem look_pars : ∀ (vs : List V) (i j : Nat) (v : V), look j (pars i vs) = some v → i ≤ j ∧ vs[j - i]? = some v
 | [], i, j, v, h => by cases h
 | u :: r, i, j, v, h => by
  simp only [pars, look] at h
  cases e : Nat.beq j i with
  | true =>
   have := Nat.eq_of_beq_eq_true e
   subst this
   rw [e] at h
   simp only [cond_true, Option.some.injEq] at h
   subst h
   exact ⟨Nat.le_refl _, by rw [Nat.sub_self]; rfl⟩
  | false =>
   rw [e] at h
   obtain ⟨h1, h2⟩ := look_pars r (i + 1) j v h
   refine ⟨by omega, ?_⟩
   rw [show j - i = (j - (i + 1)) + 1 by omega]; exact h2
theorem look_parO : ∀ (vs : List (List T)) (i j : Nat) (v : List T), look j (parO i vs) = some v → par + i ≤ j ∧ vs[j - (par + i)]? = some v
 | [], i, j, v, h => by cases h
 | u :: r, i, j, v, h => by
  simp only [parO, look] at h
  cases e : Nat.beq j (par + i) with
  | true =>
   have := Nat.eq_of_beq_eq_true e
   subst this
   rw [Nat.beq_refl] at h
   simp only [cond_true, Option.some.injEq] at h
   subst h
   exact ⟨Nat.le_refl _, by rw [Nat.sub_self]; rfl⟩
  | false =>
   rw [e] at h
   obtain ⟨h1, h2⟩ := look_parO r (i + 1) j v h
   refine ⟨by omega, ?_⟩
   rw [show j - (par + i) = (j - (par + (i + 1))) + 1 by omega]; exact h2
theorem Mt.start {vs : List V} {ob : List (List T)} : Mt (.many (pars 0 vs) .nil) (.many (parO 0 ob) .nil) (DA vs ob) := ⟨fun i v h => by
 simp only [SS.get] at h
 split at h <;> try cases h
 rename_i h1
 have := (look_pars vs 0 i v h1).2
 show vs.getD i _ = v
 rw [Nat.sub_zero] at this
 rw [List.getD_eq_getElem?_getD, this]; rfl, fun o cs h => by
 simp only [SS.get] at h
 split at h <;> try cases h
 rename_i h1
 obtain ⟨h2, h3⟩ := look_parO ob 0 o cs h1
 show (if par ≤ o then ob[o - par]? else none) = some cs
 rw [if_pos (by omega)]; exact h3⟩
/-- A function's run. -/
theorem bF {f : FuncId} {fn : Func} {c : Code} {vs : List V} {ob ob' : List (List T)} {r : V} {nw : Option (List T)} (hf : P.funcs[f]? = some fn) (hb : fn.body = some c) (hq : (shapesIn (An f) 0 vs && shapesOb (An f) 0 ob && !(An f).io.isSome) = true)
  (h : Vc P τ An (An f) c (.top (FQ τ (An f) fn.results.toList ob r ob' nw)) (.many (pars 0 vs) .nil) (.many (parO 0 ob) .nil)) : Big P τ An (.fn f vs ob r none ob' nw) := by
 simp only [Bool.and_eq_true] at hq
 refine Big.of hf hb hq.1.1 hq.1.2 ?_ (vcC_mono (fun e x hh => ?_) (h.run _ Mt.start))
 ·have := hq.2
  revert this
  cases (An f).io <;> simp
 ·obtain ⟨h0, ws, h1, h2, h3, h4⟩ := hh
  exact ⟨h0, ws, h1, h2, h3, h4⟩
end
end Go.Own

/- Walks in few words: the operations. -/
namespace Go.Own
open Go.RowKit

abbrev I64 (a : Int) : V := .one (.c (.int .i64 a))
abbrev Bo (b : Bool) : V := .one (.c (.bool b))
abbrev St' (s : List UInt8) : V := .one (.c (.str s))
abbrev Li {α : Type} (f : α → List T) (l : List α) : V := .one (.c (.sl (l.map f)))
/-- A pointer to cells, or none. -/
def optP {α : Type} (f : α → List T) : Option α → W
  | none => .nilp
  | some a => .cp (f a)

def fOff (τ : TypeId → Option TI) (s : TypeId) (f : Nat) : Option (Nat × Nat) := match tk τ s with
  | some (.struct fs) => (match fs[f]? with | some q => some (q.1, q.2.1) | none => none)
  | _ => none
def ldS (τ : TypeId → Option TI) (S : SS V) (O : SS (List T)) (t : TypeId) (v : Operand) : Option V := match τ t, evS S v with
  | some ti, some (.one (.ptr ob p)) => (match O.get ob with | some cells => loadV ti (cells.drop p) | none => none)
  | some ti, some (.one (.cp xs)) => loadV ti xs
  | _, _ => none
def overC : List T → List T → List T
  | [], cs => cs
  | x :: r, _ :: cs => x :: overC r cs
  | _ :: _, [] => []
def setC : Nat → List T → List T → List T
  | 0, xs, cs => overC xs cs
  | p + 1, xs, c :: cs => c :: setC p xs cs
  | _ + 1, _, [] => []
theorem overC_eq : ∀ {xs cs : List T}, xs.length ≤ cs.length → overC xs cs = xs ++ cs.drop xs.length
  | [], cs, _ => rfl
  | x :: r, c :: cs, h => by
    simp only [List.length_cons] at h
    simp only [overC, overC_eq (xs := r) (cs := cs) (by omega), List.length_cons, List.drop_succ_cons, List.cons_append]
  | x :: r, [], h => by simp at h
theorem setC_eq : ∀ {p : Nat} {xs cs : List T}, p + xs.length ≤ cs.length → setC p xs cs = cs.take p ++ xs ++ cs.drop (p + xs.length)
  | 0, xs, cs, h => by simp only [setC, overC_eq (xs := xs) (cs := cs) (by omega), List.take_zero, List.nil_append, Nat.zero_add]
  | p + 1, xs, c :: cs, h => by
    simp only [List.length_cons] at h
    simp only [setC, setC_eq (p := p) (xs := xs) (cs := cs) (by omega), List.take_succ_cons, List.cons_append, show p + 1 + xs.length = (p + xs.length) + 1 by omega, List.drop_succ_cons]
  | p + 1, xs, [], h => by simp at h
def stS (τ : TypeId → Option TI) (F : FA) (S : SS V) (O : SS (List T)) (t : TypeId) (v y : Operand) : Option (Nat × List T) := match τ t, evS S v, (evS S y).bind cellsOfV with
  | some ti, some (.one (.ptr ob p)), some xs => (match O.get ob with
    | some cells => bif Nat.beq xs.length ti.size && Nat.ble (p + xs.length) cells.length && confs (setC p xs cells) (F.obOf ob) then some (ob, setC p xs cells) else none
    | none => none)
  | _, _, _ => none
def zS (τ : TypeId → Option TI) (t : TypeId) : Option (List T) := match τ t with
  | some ⟨_, _, _, z, _⟩ => some z
  | none => none
def elS (τ : TypeId → Option TI) (t : TypeId) : Option TI := match tk τ t with
  | some (.sl e) => τ e
  | _ => none
theorem elS_get {τ : TypeId → Option TI} {t : TypeId} {ei : TI} (h : elS τ t = some ei) : ∃ e, tk τ t = some (.sl e) ∧ τ e = some ei := by
  unfold elS at h
  split at h
  · rename_i e he; exact ⟨e, he, h⟩
  · cases h
def capS (S : SS V) : List Operand → Option (List (Nat × Nat))
  | [] => some []
  | v :: r => match evS S v, capS S r with
    | some (.one (.ptr o off)), some l => some ((o, off) :: l)
    | _, _ => none
def evAll (S : SS V) : List Operand → Option (List V)
  | [] => some []
  | v :: r => match evS S v, evAll S r with
    | some a, some l => some (a :: l)
    | _, _ => none
def inA (S : SS V) (O : SS (List T)) (os : List Nat) : List Operand → Option (List V)
  | [] => some []
  | v :: r => match evS S v, rdS S O v, inA S O os r with
    | some u, some a, some l => bif thereV u then some (a.to (innO os) :: l) else none
    | _, _, _ => none
def plainW : W → Bool
  | .junk => false
  | .ptr _ _ => false
  | .fn _ _ => false
  | .al _ _ => false
  | .pp _ _ _ _ => false
  | _ => true
def plainV : V → Bool
  | .one w => plainW w
  | .tup ws => ws.all plainW
theorem plainW_to {ρ : Nat → Option Nat} {w : W} (h : plainW w = true) : w.to ρ = w := by
  cases w <;> first | rfl | cases h
theorem plainV_to {ρ : Nat → Option Nat} {v : V} (h : plainV v = true) : v.to ρ = v := by
  cases v with
  | one w => exact congrArg V.one (plainW_to h)
  | tup ws =>
    show V.tup (ws.map (W.to ρ)) = _
    rw [show ws.map (W.to ρ) = ws.map id from List.map_congr_left fun w hw => plainW_to (List.all_eq_true.1 h w hw), List.map_id]

theorem fI {s : V} {κ : IntKind} {a b : Int} (h : fits (.one (.c (.int κ a))) s = true) : fits (.one (.c (.int κ b))) s = true := by
  cases s with
  | tup ws => cases h
  | one w => cases w <;> first | (cases h; done) | (rename_i z; cases z <;> first | exact h | rfl | cases h)
theorem fB {s : V} {a b : Bool} (h : fits (.one (.c (.bool a))) s = true) : fits (.one (.c (.bool b))) s = true := by
  cases s with
  | tup ws => cases h
  | one w => cases w <;> first | (cases h; done) | (rename_i z; cases z <;> first | exact h | rfl | cases h)
theorem fS {s : V} {a b : List UInt8} (h : fits (.one (.c (.str a))) s = true) : fits (.one (.c (.str b))) s = true := by
  cases s with
  | tup ws => cases h
  | one w => cases w <;> first | (cases h; done) | (rename_i z; cases z <;> first | exact h | rfl | cases h)
set_option linter.unusedVariables false
section
variable {P : Program} {τ : TypeId → Option TI} {An : FuncId → FA} {F : FA} {ds : List (Option Nat)} {r : List Oper} {k : Kt} {S : SS V} {O : SS (List T)} {ty : TypeId} {pos : String} {after : Array Edge} {gd : Option (Nat × Bool)} {d : Nat}

theorem evAll_ok {x : D} (hx : Mt S O x) : ∀ {l : List Operand} {vs : List V}, evAll S l = some vs → l.map (ev x.sl) = vs
  | [], vs, h => by cases h; rfl
  | v :: r, vs, h => by
    simp only [evAll] at h
    split at h <;> try cases h
    rename_i a l h1 h2
    simp only [List.map_cons, hx.ev h1, evAll_ok hx h2]
theorem capS_ok {x : D} (hx : Mt S O x) : ∀ {l : List Operand} {cs : List (Nat × Nat)}, capS S l = some cs → capsOf (l.map (ev x.sl)) = some cs
  | [], cs, h => by cases h; rfl
  | v :: r, cs, h => by
    simp only [capS] at h
    split at h <;> try cases h
    rename_i o off l h1 h2
    simp only [List.map_cons, hx.ev h1, capsOf, capS_ok hx h2, Option.map_some]
theorem inA_ok {x : D} (hx : Mt S O x) {os : List Nat} : ∀ {l : List Operand} {vs : List V}, inA S O os l = some vs → l.map (fun v => (evD x v).to (innO os)) = vs ∧ l.all (fun v => thereV (ev x.sl v)) = true
  | [], vs, h => by cases h; exact ⟨rfl, rfl⟩
  | v :: r, vs, h => by
    simp only [inA] at h
    split at h <;> try cases h
    rename_i u a l h0 h1 h2
    obtain ⟨c, h⟩ := cond_some h
    cases h
    obtain ⟨i1, i2⟩ := inA_ok hx h2
    simp only [List.map_cons, hx.rd h1, i1, List.all_cons, hx.ev h0, c, i2, Bool.and_self, and_self]

theorem oNl (h : nxt P τ An F k S O) : Vo P τ An F ds [] k S O := ⟨fun x hx => step_nil (nxt_ok h x hx)⟩
/-- Two ways. -/
theorem oIf {ρ : Type} {A B : Option ρ} {r0 : ρ} {e : Bool} (t : Nat) {os : List Oper} (h : (bif e then A else B) = some r0) (hc : S.get t = some (.one (.c (.bool e)))) (h1 : e = true → A = some r0 → Vo P τ An F ds os k (.cons t (.one (.c (.bool true))) S) O) (h0 : e = false → B = some r0 → Vo P τ An F ds os k (.cons t (.one (.c (.bool false))) S) O) : Vo P τ An F ds os k S O := by
  cases e with
  | true => exact ⟨fun x hx => (h1 rfl h).run x (hx.su hc rfl)⟩
  | false => exact ⟨fun x hx => (h0 rfl h).run x (hx.su hc rfl)⟩
/-- A check. -/
theorem oCk {β : Type} {c : Bool} {f : Unit → Option β} {r0 : β} {os : List Oper} (h : (ck c).bind f = some r0) (h1 : c = true → f () = some r0 → Vo P τ An F ds os k S O) : Vo P τ An F ds os k S O := by
  obtain ⟨u, h2, h3⟩ := bind_some h
  exact h1 (ck_of h2) h3

theorem wSk {op : Op} (hg : gS ds S gd = some false) (h : Vo P τ An F ds r k (.cons d (.tup []) S) O) : Vo P τ An F ds (⟨some d, op, ty, pos, after, gd⟩ :: r) k S O :=
  ⟨fun x hx => step_skip (hx.gd hg) rfl (h.run _ (hx.put d _))⟩
theorem wMv {y : Operand} {v : V} (hg : gS ds S gd = some true) (hv : evS S y = some v) (hq : (!(mem d F.al) && thereV v && fits v (F.shOf d)) = true) (h : Vo P τ An F ds r k (.cons d v S) O) : Vo P τ An F ds (⟨some d, .move y, ty, pos, after, gd⟩ :: r) k S O :=
  ⟨fun x hx => mv (hx.gd hg) (hx.ev hv) hq (h.run _ (hx.put d _))⟩
theorem wAs {y : Operand} {v : V} (hg : gS ds S gd = some true) (hv : evS S y = some v) (hq : (thereV v && fits v (F.shOf d)) = true) (h : Vo P τ An F ds r k (.cons d v S) O) : Vo P τ An F ds (⟨some d, .assign y, ty, pos, after, gd⟩ :: r) k S O :=
  ⟨fun x hx => asg (hx.gd hg) (hx.ev hv) hq (h.run _ (hx.put d _))⟩
theorem wAl {t : Nat} {es : List (List T)} (hg : gS ds S gd = some true) (hm : mem d F.al = true) (hv : S.get t = some (.one (.c (.sl es)))) (hf : fits (.one (.al (.s t 0 0) [])) (F.shOf d) = true) (h : Vo P τ An F ds r k (.cons d (.one (.al (.s t 0 0) [])) S) O) : Vo P τ An F ds (⟨some d, .move (.tmp t), ty, pos, after, gd⟩ :: r) k S O :=
  ⟨fun x hx => als (hx.gd hg) hm (hx.sl t _ hv) hf (h.run _ (hx.put d _))⟩
theorem wPk {c y z : Operand} {b : Bool} {t : T} (hg : gS ds S gd = some true) (hc : evS S c = some (.one (.c (.bool b)))) (hv : evS S (bif b then y else z) = some (.one (.c t))) (hq : (scal t && fits (.one (.c t)) (F.shOf d)) = true) (h : Vo P τ An F ds r k (.cons d (.one (.c t)) S) O) : Vo P τ An F ds (⟨some d, .pick c y z, ty, pos, after, gd⟩ :: r) k S O :=
  ⟨fun x hx => pk (hx.gd hg) (hx.ev hc) (hx.ev hv) hq (h.run _ (hx.put d _))⟩

/-! reads -/
set_option linter.unusedVariables false
theorem wBi {op : BinOp} {t t2 : TypeId} {y z : Operand} (w : T) {v1 v2 : V} (hg : gS ds S gd = some true) (h1 : rdS S O y = some v1) (h2 : rdS S O z = some v2) (hr : binV τ op t v1 v2 = some w) (hf : fits (.one (.c w)) (F.shOf d) = true) (h : Vo P τ An F ds r k (.cons d (.one (.c w)) S) O) : Vo P τ An F ds (⟨some d, .binOp op t y z t2, ty, pos, after, gd⟩ :: r) k S O :=
  ⟨fun x hx => s_bin (hx.gd hg) (hx.rd h1) (hx.rd h2) hr hf (h.run _ (hx.put d _))⟩
section
variable {t t2 : TypeId} {y z : Operand} {κ : IntKind} {a b : Int}
theorem bin_int {op : BinOp} {w : T} (h1 : op ≠ .shl) (h2 : op ≠ .shr) (h : intOp op κ a b = some w) : binV τ op t (.one (.c (.int κ a))) (.one (.c (.int κ b))) = some w := by
  cases op <;> first | exact absurd rfl h1 | exact absurd rfl h2 | (simp only [binV, if_true]; exact h)
theorem wAdd (hg : gS ds S gd = some true) (h1 : rdS S O y = some (.one (.c (.int κ a)))) (h2 : rdS S O z = some (.one (.c (.int κ b)))) (hf : fits (.one (.c (.int κ 0))) (F.shOf d) = true) (h : Vo P τ An F ds r k (.cons d (.one (.c (.int κ (κ.wrap (a + b))))) S) O) : Vo P τ An F ds (⟨some d, .binOp .add t y z t2, ty, pos, after, gd⟩ :: r) k S O :=
  wBi _ hg h1 h2 (bin_int nofun nofun rfl) (fI hf) h
theorem wSub (hg : gS ds S gd = some true) (h1 : rdS S O y = some (.one (.c (.int κ a)))) (h2 : rdS S O z = some (.one (.c (.int κ b)))) (hf : fits (.one (.c (.int κ 0))) (F.shOf d) = true) (h : Vo P τ An F ds r k (.cons d (.one (.c (.int κ (κ.wrap (a - b))))) S) O) : Vo P τ An F ds (⟨some d, .binOp .sub t y z t2, ty, pos, after, gd⟩ :: r) k S O :=
  wBi _ hg h1 h2 (bin_int nofun nofun rfl) (fI hf) h
theorem wEq (hg : gS ds S gd = some true) (h1 : rdS S O y = some (.one (.c (.int κ a)))) (h2 : rdS S O z = some (.one (.c (.int κ b)))) (hf : fits (Bo true) (F.shOf d) = true) (h : Vo P τ An F ds r k (.cons d (Bo (decide (a = b))) S) O) : Vo P τ An F ds (⟨some d, .binOp .eql t y z t2, ty, pos, after, gd⟩ :: r) k S O :=
  wBi _ hg h1 h2 (bin_int nofun nofun rfl) (fB hf) h
theorem wNe (hg : gS ds S gd = some true) (h1 : rdS S O y = some (.one (.c (.int κ a)))) (h2 : rdS S O z = some (.one (.c (.int κ b)))) (hf : fits (Bo true) (F.shOf d) = true) (h : Vo P τ An F ds r k (.cons d (Bo (!decide (a = b))) S) O) : Vo P τ An F ds (⟨some d, .binOp .neq t y z t2, ty, pos, after, gd⟩ :: r) k S O :=
  wBi _ hg h1 h2 (bin_int nofun nofun rfl) (fB hf) h
theorem wLt (hg : gS ds S gd = some true) (h1 : rdS S O y = some (.one (.c (.int κ a)))) (h2 : rdS S O z = some (.one (.c (.int κ b)))) (hf : fits (Bo true) (F.shOf d) = true) (h : Vo P τ An F ds r k (.cons d (Bo (decide (a < b))) S) O) : Vo P τ An F ds (⟨some d, .binOp .lss t y z t2, ty, pos, after, gd⟩ :: r) k S O :=
  wBi _ hg h1 h2 (bin_int nofun nofun rfl) (fB hf) h
theorem wLe (hg : gS ds S gd = some true) (h1 : rdS S O y = some (.one (.c (.int κ a)))) (h2 : rdS S O z = some (.one (.c (.int κ b)))) (hf : fits (Bo true) (F.shOf d) = true) (h : Vo P τ An F ds r k (.cons d (Bo (decide (a ≤ b))) S) O) : Vo P τ An F ds (⟨some d, .binOp .leq t y z t2, ty, pos, after, gd⟩ :: r) k S O :=
  wBi _ hg h1 h2 (bin_int nofun nofun rfl) (fB hf) h
theorem wGt (hg : gS ds S gd = some true) (h1 : rdS S O y = some (.one (.c (.int κ a)))) (h2 : rdS S O z = some (.one (.c (.int κ b)))) (hf : fits (Bo true) (F.shOf d) = true) (h : Vo P τ An F ds r k (.cons d (Bo (decide (b < a))) S) O) : Vo P τ An F ds (⟨some d, .binOp .gtr t y z t2, ty, pos, after, gd⟩ :: r) k S O :=
  wBi _ hg h1 h2 (bin_int nofun nofun rfl) (fB hf) h
theorem wEs {a b : List UInt8} (hg : gS ds S gd = some true) (h1 : rdS S O y = some (.one (.c (.str a)))) (h2 : rdS S O z = some (.one (.c (.str b)))) (hf : fits (Bo true) (F.shOf d) = true) (h : Vo P τ An F ds r k (.cons d (Bo (decide (a = b))) S) O) : Vo P τ An F ds (⟨some d, .binOp .eql t y z t2, ty, pos, after, gd⟩ :: r) k S O :=
  wBi _ hg h1 h2 rfl (fB hf) h
theorem wNs {a b : List UInt8} (hg : gS ds S gd = some true) (h1 : rdS S O y = some (.one (.c (.str a)))) (h2 : rdS S O z = some (.one (.c (.str b)))) (hf : fits (Bo true) (F.shOf d) = true) (h : Vo P τ An F ds r k (.cons d (Bo (!decide (a = b))) S) O) : Vo P τ An F ds (⟨some d, .binOp .neq t y z t2, ty, pos, after, gd⟩ :: r) k S O :=
  wBi _ hg h1 h2 rfl (fB hf) h
theorem wCat {a b : List UInt8} (hc : decide (a.length + b.length ≤ 9223372036854775807) = true) (hg : gS ds S gd = some true) (h1 : rdS S O y = some (.one (.c (.str a)))) (h2 : rdS S O z = some (.one (.c (.str b)))) (hf : fits (St' []) (F.shOf d) = true) (h : Vo P τ An F ds r k (.cons d (St' (a ++ b)) S) O) : Vo P τ An F ds (⟨some d, .binOp .add t y z t2, ty, pos, after, gd⟩ :: r) k S O :=
  wBi (.str (a ++ b)) hg h1 h2 (by have := of_decide_eq_true hc; simp [binV, strOp, this]) (fS hf) h
theorem wNot {b : Bool} (hg : gS ds S gd = some true) (h1 : rdS S O y = some (.one (.c (.bool b)))) (hf : fits (Bo true) (F.shOf d) = true) (h : Vo P τ An F ds r k (.cons d (Bo (!b)) S) O) : Vo P τ An F ds (⟨some d, .unOp .not t y, ty, pos, after, gd⟩ :: r) k S O :=
  ⟨fun x hx => rd (.bool !b) (hx.gd hg) rfl rfl (by simp only [readV, hx.rd h1]) (fB hf) (h.run _ (hx.put d _))⟩
theorem wCv {κ' : IntKind} {u : TK} (hg : gS ds S gd = some true) (ht : tk τ t = some u) (ht2 : tk τ t2 = some (.int κ')) (h1 : rdS S O y = some (.one (.c (.int κ a)))) (hf : fits (.one (.c (.int κ' 0))) (F.shOf d) = true) (h : Vo P τ An F ds r k (.cons d (.one (.c (.int κ' (κ'.wrap a)))) S) O) : Vo P τ An F ds (⟨some d, .convert t t2 y, ty, pos, after, gd⟩ :: r) k S O :=
  ⟨fun x hx => rd (.int κ' (κ'.wrap a)) (hx.gd hg) rfl rfl (by simp only [readV, hx.rd h1, ht, ht2]) (fI hf) (h.run _ (hx.put d _))⟩
theorem wLs {s : List UInt8} (hg : gS ds S gd = some true) (ht : tk τ t = some .str) (h1 : rdS S O y = some (.one (.c (.str s)))) (hf : fits (I64 0) (F.shOf d) = true) (h : Vo P τ An F ds r k (.cons d (I64 s.length) S) O) : Vo P τ An F ds (⟨some d, .call { callee := .builtin .len, args := #[y], argTypes := #[t] }, ty, pos, after, gd⟩ :: r) k S O :=
  ⟨fun x hx => rd (.int .i64 s.length) (hx.gd hg) rfl rfl (by simp only [readV, hx.rd h1, ht]) (fI hf) (h.run _ (hx.put d _))⟩
theorem wLn {α : Type} {L : List α} {f : α → List T} {e : TypeId} (hg : gS ds S gd = some true) (ht : tk τ t = some (.sl e)) (h1 : rdS S O y = some (.one (.c (.sl (L.map f))))) (hf : fits (I64 0) (F.shOf d) = true) (h : Vo P τ An F ds r k (.cons d (I64 L.length) S) O) : Vo P τ An F ds (⟨some d, .call { callee := .builtin .len, args := #[y], argTypes := #[t] }, ty, pos, after, gd⟩ :: r) k S O :=
  ⟨fun x hx => ln (hx.gd hg) ht (hx.rd h1) hf (h.run _ (hx.put d _))⟩
end

/-! addresses, objects -/
theorem wNc {v : Operand} {w : V} (hg : gS ds S gd = some true) (hv : evS S v = some w) (hp : (isP w && fits w (F.shOf d)) = true) (h : Vo P τ An F ds r k (.cons d w S) O) : Vo P τ An F ds (⟨some d, .nilCheck v, ty, pos, after, gd⟩ :: r) k S O := by
  simp only [Bool.and_eq_true] at hp
  exact ⟨fun x hx => nlc (hx.gd hg) (hx.ev hv) hp.1 hp.2 (h.run _ (hx.put d _))⟩
theorem wFd {s : TypeId} {v : Operand} {f : Nat} {off : Nat × Nat} {w u : V} (hg : gS ds S gd = some true) (hq : fOff τ s f = some off) (hv : evS S v = some w) (hw : fieldV off w = some u) (hf : fits u (F.shOf d) = true) (h : Vo P τ An F ds r k (.cons d u S) O) : Vo P τ An F ds (⟨some d, .fieldAddr s v f, ty, pos, after, gd⟩ :: r) k S O := by
  unfold fOff at hq
  split at hq <;> try cases hq
  rename_i fs hs
  split at hq <;> try cases hq
  rename_i q hf2
  exact ⟨fun x hx => fld (hx.gd hg) hs hf2 (hx.ev hv) hw hf (h.run _ (hx.put d _))⟩
theorem wLd {t : TypeId} {v : Operand} {w : V} (hg : gS ds S gd = some true) (hl : ldS τ S O t v = some w) (hq : (!(mem d F.al) && fits w (F.shOf d)) = true) (h : Vo P τ An F ds r k (.cons d w S) O) : Vo P τ An F ds (⟨some d, .load t v, ty, pos, after, gd⟩ :: r) k S O := by
  simp only [Bool.and_eq_true, Bool.not_eq_true'] at hq
  refine ⟨fun x hx => ?_⟩
  unfold ldS at hl
  split at hl <;> try cases hl
  · rename_i ti ob p h1 h2
    split at hl <;> try cases hl
    rename_i cells h3
    exact ldo (hx.gd hg) h1 hq.1 (hx.ev h2) (hx.ob _ _ h3) hl hq.2 (h.run _ (hx.put d _))
  · rename_i ti xs h1 h2
    exact ldc (hx.gd hg) h1 (hx.ev h2) hl hq.2 (h.run _ (hx.put d _))
theorem wSt {t : TypeId} {v y : Operand} {ob : Nat} {cs : List T} (hg : gS ds S gd = some true) (hs : stS τ F S O t v y = some (ob, cs)) (h : Vo P τ An F ds r k S (.cons ob cs O)) : Vo P τ An F ds (⟨none, .store t v y, ty, pos, after, gd⟩ :: r) k S O := by
  refine ⟨fun x hx => ?_⟩
  unfold stS at hs
  split at hs <;> try cases hs
  rename_i ti ob' p xs h1 h2 h3
  split at hs <;> try cases hs
  rename_i cells h4
  obtain ⟨c, hs⟩ := cond_some hs
  cases hs
  have hy : cellsOfV (ev x.sl y) = some xs := by
    obtain ⟨u, h5, h6⟩ := Option.bind_eq_some_iff.1 h3
    rw [hx.ev h5]; exact h6
  have c2 := c
  simp only [Bool.and_eq_true] at c2
  exact sto (cs := setC p xs cells) (hx.gd hg) h1 (hx.ev h2) hy (hx.ob _ _ h4) c (setC_eq (Nat.le_of_ble_eq_true c2.1.2)).symm (h.run _ (hx.setO ob _))
theorem wAc {t : TypeId} {cs : List T} (hg : gS ds S gd = some true) (hz : zS τ t = some cs) (hc : confs cs (F.obOf d) = true) (h : Vo P τ An F ds r k (.cons d (.one (.ptr d 0)) S) (.cons d cs O)) : Vo P τ An F ds (⟨some d, .alloc t, ty, pos, after, gd⟩ :: r) k S O := by
  unfold zS at hz
  split at hz <;> try cases hz
  rename_i h1
  exact ⟨fun x hx => alc (hx.gd hg) h1 rfl hc (h.run _ ((hx.put d _).setO d _))⟩
theorem wBx {e : TypeId} {t : Nat} {xs : List T} {w : V} (hg : gS ds S gd = some true) (hv : S.get t = some w) (hw : cellsOfV w = some xs) (hc : confs xs (F.obOf d) = true) (h : Vo P τ An F ds r k (.cons d (.one (.ptr d 0)) S) (.cons d xs O)) : Vo P τ An F ds (⟨some d, .box e (.tmp t), ty, pos, after, gd⟩ :: r) k S O :=
  ⟨fun x hx => bx (hx.gd hg) (hx.sl _ _ hv) hw hc (h.run _ ((hx.put d _).setO d _))⟩
def zipV : List (Nat × Operand) → List V → List (Nat × V)
  | p :: r, v :: q => (p.1, v) :: zipV r q
  | _, _ => []
theorem zipV_ok {x : D} : ∀ {l : List (Nat × Operand)} {vs : List V}, (l.map (·.2)).map (ev x.sl) = vs → l.map (fun p => (p.1, ev x.sl p.2)) = zipV l vs
  | [], vs, h => by cases h; rfl
  | p :: r, vs, h => by
    cases vs with
    | nil => cases h
    | cons v vs =>
      simp only [List.map_cons, List.cons.injEq] at h
      simp only [List.map_cons, zipV, h.1, zipV_ok h.2]
theorem wBd {t : TypeId} {fs : List (Nat × Nat × Bool)} {parts : Array (Nat × Operand)} {vs : List V} {z : List T} (rs : List T) (hg : gS ds S gd = some true) (hk : tk τ t = some (.struct fs)) (hz : zS τ t = some z) (hv : evAll S (parts.toList.map (·.2)) = some vs) (hb : buildT fs z (zipV parts.toList vs) = some rs) (hf : fits (.one (.ag rs)) (F.shOf d) = true) (h : Vo P τ An F ds r k (.cons d (.one (.ag rs)) S) O) : Vo P τ An F ds (⟨some d, .build t parts, ty, pos, after, gd⟩ :: r) k S O := by
  unfold zS at hz
  split at hz <;> try cases hz
  rename_i a b c k' h1
  simp only [tk, h1, Option.map_some, Option.some.injEq] at hk
  exact ⟨fun x hx => bld (hx.gd hg) h1 hk (by rw [zipV_ok (evAll_ok hx hv)]; exact hb) hf (h.run _ (hx.put d _))⟩
theorem wEt {j t : Nat} {ws : List W} {w : W} (hg : gS ds S gd = some true) (hv : S.get t = some (.tup ws)) (hw : ws[j]? = some w) (hf : fits (.one w) (F.shOf d) = true) (h : Vo P τ An F ds r k (.cons d (.one w) S) O) : Vo P τ An F ds (⟨some d, .extract (.tmp t) j, ty, pos, after, gd⟩ :: r) k S O :=
  ⟨fun x hx => ext (hx.gd hg) (hx.sl _ _ hv) hw hf (h.run _ (hx.put d _))⟩
theorem wFn {f : FuncId} {caps : Array Operand} {cs : List (Nat × Nat)} (hg : gS ds S gd = some true) (hc : capS S caps.toList = some cs) (hf : fits (.one (.fn f cs)) (F.shOf d) = true) (h : Vo P τ An F ds r k (.cons d (.one (.fn f cs)) S) O) : Vo P τ An F ds (⟨some d, .makeFunc (.func f) #[] caps, ty, pos, after, gd⟩ :: r) k S O :=
  ⟨fun x hx => mkf (hx.gd hg) (capS_ok hx hc) hf (h.run _ (hx.put d _))⟩

/-! slices -/
theorem wIx {α β : Type} {L : List α} {f : α → List T} {g : α → Option β} {r0 : β} {t : TypeId} {ei : TI} {v i : Operand} {κ : IntKind} {n : Int} {row : α → List T} (h : (ix L n).bind g = some r0) (hg : gS ds S gd = some true) (he : elS τ t = some ei) (hv : evS S v = some (.one (.c (.sl (L.map f))))) (hi : evS S i = some (.one (.c (.int κ n)))) (hrow : ∀ a, f a = row a) (hq : ∀ a, (Nat.beq (row a).length ei.size && fits (.one (.cp (row a))) (F.shOf d)) = true)
    (hn : ∀ a, g a = some r0 → Vo P τ An F ds r k (.cons d (.one (.cp (row a))) S) O) : Vo P τ An F ds (⟨some d, .indexAddr t v i, ty, pos, after, gd⟩ :: r) k S O := by
  obtain ⟨a, h1, h2⟩ := bind_some h
  obtain ⟨e, q1, q2⟩ := elS_get he
  have q := hq a
  simp only [Bool.and_eq_true] at q
  exact ⟨fun x hx => ixa h1 (hx.gd hg) q1 q2 (hx.ev hv) (hx.ev hi) (hrow a) (Nat.eq_of_beq_eq_true q.1) q.2 ((hn a h2).run _ (hx.put d _))⟩
theorem wLt' {α : Type} {L : List α} {f : α → List T} {t : TypeId} {n : Nat} {parts : Array (Nat × Operand)} {ei : TI} {vs : List V} {es : List (List T)} (hg : gS ds S gd = some true) (he : elS τ t = some ei) (hv : evAll S (parts.toList.map (·.2)) = some vs) (hes : cellsAll vs = some es) (hL : L.map f = es)
    (hq : (partsOk 0 parts.toList && Nat.beq n parts.toList.length && es.all (fun e => Nat.beq e.length ei.size) && Nat.ble (n * ei.size) 16777216) = true) (hf : fits (.one (.c (.sl []))) (F.shOf d) = true) (h : Vo P τ An F ds r k (.cons d (Li f L) S) O) : Vo P τ An F ds (⟨some d, .buildSlice t n parts, ty, pos, after, gd⟩ :: r) k S O := by
  obtain ⟨e, q1, q2⟩ := elS_get he
  exact ⟨fun x hx => lit (hx.gd hg) q1 q2 (by rw [evAll_ok hx hv]; exact hes) hL hq hf (h.run _ (hx.put d _))⟩
theorem wAp {α β : Type} {L1 L2 : List α} {g : List α → Option β} {r0 : β} {f : α → List T} {b : Nat} {t u : TypeId} {ei : TI} {v y : Operand} {vy : V} {es2 : List (List T)} (h : (app2 b L1 L2).bind g = some r0) (hg : gS ds S gd = some true) (he : elS τ t = some ei) (hb : Nat.beq ei.bytes b = true) (hv : evS S v = some (.one (.c (.sl (L1.map f))))) (hy : evS S y = some vy) (hes : esOf vy = some es2) (hL : es2 = L2.map f) (hu : elS τ u = some ei)
    (hu2 : strOrSl τ u (match tk τ t with | some (.sl e) => e | _ => 0) = true) (hsz : ∀ a, (Nat.beq (f a).length ei.size && confs (f a) ei.zero) = true) (hf : fits (.one (.c (.sl []))) (F.shOf d) = true) (hn : ∀ L3, g L3 = some r0 → Vo P τ An F ds r k (.cons d (Li f L3) S) O) : Vo P τ An F ds (⟨some d, .call { callee := .builtin .append, args := #[v, y], argTypes := #[t, u] }, ty, pos, after, gd⟩ :: r) k S O := by
  obtain ⟨a, h1, h2⟩ := bind_some h
  obtain ⟨e, q1, q2⟩ := elS_get he
  rw [q1] at hu2
  refine ⟨fun x hx => apd h1 (hx.gd hg) q1 q2 (Nat.eq_of_beq_eq_true hb) (hx.ev hv) (by rw [hx.ev hy]; exact hes) hL hu2 (fun a => ?_) (fun a => ?_) hf ((hn a h2).run _ (hx.put d _))⟩
  · have := hsz a; simp only [Bool.and_eq_true] at this; exact Nat.eq_of_beq_eq_true this.1
  · have := hsz a; simp only [Bool.and_eq_true] at this; exact this.2
theorem wMk {α : Type} {z : α} {f : α → List T} {t : TypeId} {ei : TI} {v y : Operand} {n : Int} {κ κ' : IntKind} {b : Nat} (hc : decide (0 ≤ n ∧ n ≤ maxLen ∧ b * n ≤ 281474976710656) = true) (hg : gS ds S gd = some true) (he : elS τ t = some ei) (hb : ei.bytes = b) (hv : evS S v = some (.one (.c (.int κ n)))) (hy : evS S y = some (.one (.c (.int κ' n)))) (hz : f z = ei.zero) (hf : fits (.one (.c (.sl []))) (F.shOf d) = true)
    (h : Vo P τ An F ds r k (.cons d (Li f (List.replicate n.toNat z)) S) O) : Vo P τ An F ds (⟨some d, .makeSlice t v y, ty, pos, after, gd⟩ :: r) k S O := by
  subst hb
  obtain ⟨e, q1, q2⟩ := elS_get he
  exact ⟨fun x hx => mks (of_decide_eq_true hc) (hx.gd hg) q1 q2 (hx.ev hv) (hx.ev hy) hz hf (h.run _ (hx.put d _))⟩

/-! places inside slices -/
end
end Go.Own

/- Walks in few words: places inside slices, calls. -/
namespace Go.Own
open Go.RowKit
set_option linter.unusedVariables false

def zerok : Loc → Bool
 | .s _ k j => Nat.beq k 0 && Nat.beq j 0
 | _ => true
theorem zerok_of {l : Loc} (h : zerok l = true) : ∀ i k j, l = .s i k j → k = 0 := fun i k j e => by
 subst e
 simp only [zerok, Bool.and_eq_true] at h
 exact Nat.eq_of_beq_eq_true h.1
/-- The state with another datum at a place. -/
def updS (S : SS V) : Loc → T → SS V
 | .s i _ _, z => .cons i (.one (.c z)) S
 | _, _ => S
def updO (O : SS (List T)) : Loc → T → SS (List T)
 | .oc o j, z => (match O.get o with | some cs => .cons o (cs.set j z) O | none => O)
 | _, _ => O
def isC : SS V → Loc → Bool
 | S, .s i _ _ => (match S.get i with | some (.one (.c _)) => true | _ => false)
 | _, _ => true

def toStr : List Int → Option (List UInt8)
 | [] => some []
 | n :: r => if 0 ≤ n ∧ n < 256 then (toStr r).map (UInt8.ofNat n.toNat :: ·) else none

section
variable {P : Program} {τ : TypeId → Option TI} {An : FuncId → FA} {F : FA} {ds : List (Option Nat)} {r : List Oper} {k : Kt} {S : SS V} {O : SS (List T)} {ty : TypeId} {pos : String} {after : Array Edge} {gd : Option (Nat × Bool)} {d : Nat}

theorem Mt.upd {x : D} (hx : Mt S O x) {l : Loc} {y z : T} (hk : zerok l = true) (hc : isC S l = true) (ha : atS S O l = some y) : Mt (updS S l z) (updO O l z) (x.upd l z) := by
 cases l with
 | s i k j =>
  simp only [zerok, Bool.and_eq_true] at hk
  have e1 := Nat.eq_of_beq_eq_true hk.1
  have e2 := Nat.eq_of_beq_eq_true hk.2
  subst e1; subst e2
  simp only [isC] at hc
  split at hc <;> try cases hc
  rename_i w hw
  rw [upd_slot (hx.sl i _ hw)]
  exact hx.put i _
 | oc o j =>
  simp only [atS, Option.bind_eq_some_iff] at ha
  obtain ⟨cs, h1, h2⟩ := ha
  rw [upd_cell (hx.ob o _ h1)]
  simp only [updS, updO, h1]
  exact hx.setO o _
 | _ => cases ha
theorem wIp {α β : Type} {L : List α} {f : α → List T} {g : α → Option β} {r0 : β} {t : TypeId} {ei : TI} {v i : Operand} {l : Loc} {κ : IntKind} {n : Int} (h : (ix L n).bind g = some r0) (hg : gS ds S gd = some true) (he : elS τ t = some ei) (hv : evS S v = some (.one (.al l []))) (hk : zerok l = true) (hr : atS S O l = some (.sl (L.map f))) (hi : evS S i = some (.one (.c (.int κ n)))) (hsz : ∀ a, (f a).length = ei.size)
  (hf : fits (.one (.pp l [] 0 0)) (F.shOf d) = true) (hn : ∀ a, ix L n = some a → g a = some r0 → Vo P τ An F ds r k (.cons d (.one (.pp l [] n.toNat 0)) S) O) : Vo P τ An F ds (⟨some d, .indexAddr t v i, ty, pos, after, gd⟩ :: r) k S O := by
 obtain ⟨a, h1, h2⟩ := bind_some h
 obtain ⟨e, q1, q2⟩ := elS_get he
 exact ⟨fun x hx => ixp h1 (hx.gd hg) q1 q2 (hx.ev hv) (hx.at (zerok_of hk) hr) (hx.ev hi) (hsz a) hf ((hn a h1 h2).run _ (hx.put d _))⟩
/-- A store into an element: the row's cells with the new ones between. -/
theorem wSp {α : Type} {L : List α} {f : α → List T} {a v' : α} {i : Int} {t : TypeId} {v y : Operand} {ti : TI} {l : Loc} {m j : Nat} {xs : List T} (hix : ix L i = some a) (hg : gS ds S gd = some true) (ht : τ t = some ti) (hv : evS S v = some (.one (.pp l [] m j))) (hm : m = i.toNat) (hk : (zerok l && isC S l) = true) (hr : atS S O l = some (.sl (L.map f))) (hy : (evS S y).bind cellsOfV = some xs) (hq : (Nat.beq xs.length ti.size && Nat.ble (j + xs.length) (f a).length) = true)
  (hrow : (f a).take j ++ xs ++ (f a).drop (j + xs.length) = f v') (h : Vo P τ An F ds r k (updS S l (.sl ((L.set i.toNat v').map f))) (updO O l (.sl ((L.set i.toNat v').map f)))) : Vo P τ An F ds (⟨none, .store t v y, ty, pos, after, gd⟩ :: r) k S O := by
 subst hm
 simp only [Bool.and_eq_true] at hk
 refine ⟨fun x hx => step_run (x1 := x.upd l (.sl ((L.set i.toNat v').map f))) (hx.gd hg) rfl ?_ (h.run _ (hx.upd hk.1 hk.2 hr))⟩
 refine storeP hix ht (hx.ev hv) (hx.at (zerok_of hk.1) hr) ?_ hq hrow
 obtain ⟨u, h5, h6⟩ := Option.bind_eq_some_iff.1 hy
 rw [hx.ev h5]; exact h6

theorem wAe {y : Operand} {v' : V} (v : V) (hg : gS ds S gd = some true) (hv : evS S y = some v') (he : v' = v) (hq : (thereV v && fits v (F.shOf d)) = true) (h : Vo P τ An F ds r k (.cons d v S) O) : Vo P τ An F ds (⟨some d, .assign y, ty, pos, after, gd⟩ :: r) k S O := by
 subst he; exact wAs hg hv hq h
theorem bytesOf_toStr : ∀ l : List Int, bytesOf (l.map fun a => [T.int .u8 a]) = toStr l
 | [] => rfl
 | n :: r => by simp only [List.map_cons, bytesOf, toStr, bytesOf_toStr r]
theorem wTs {β : Type} {t u e : TypeId} {y : Operand} {L : List Int} {f : Int → List T} {g : List UInt8 → Option β} {r0 : β} (h : (toStr L).bind g = some r0) (hg : gS ds S gd = some true) (ht : tk τ t = some (.sl e)) (hu : (tk τ u = some .str) ∧ tk τ e = some (.int .u8)) (h1 : rdS S O y = some (.one (.c (.sl (L.map f))))) (hr : ∀ a, f a = [.int .u8 a]) (hf : fits (St' []) (F.shOf d) = true) (hn : ∀ s', g s' = some r0 → Vo P τ An F ds r k (.cons d (St' s') S) O) : Vo P τ An F ds (⟨some d, .convert t u y, ty, pos, after, gd⟩ :: r) k S O := by
 obtain ⟨b, h5, h4⟩ := bind_some h
 have hfn : f = fun a => [.int .u8 a] := funext hr
 subst hfn
 exact ⟨fun x hx => rd (.str b) (hx.gd hg) rfl rfl (by simp only [readV, ht, hu.1, hu.2, hx.rd h1, bytesOf_toStr, h5, Option.map_some]) (fS hf) ((hn b h4).run _ (hx.put d _))⟩

/-! calls -/
def nil' {α : Type} : List α → Bool
 | [] => true
 | _ => false
/-- A call that is handed no objects. -/
theorem wC0 {ρ β : Type} {o : Option ρ} {g : ρ → Option β} {r0 : β} {f : FuncId} {vs : List V} {rr : ρ → V} {c : Call} {v : Operand} {caps : List (Nat × Nat)} (h : o.bind g = some r0) (hB : ∀ q, o = some q → Big P τ An (.fn f vs [] (rr q) none [] none)) (hg : gS ds S gd = some true) (hc : calleeV ⟨some d, .call c, ty, pos, after, gd⟩ = some (c, v)) (hx : evS S v = some (.one (.fn f caps)))
  (hk : (nil' (osOf F c v) && nil' caps && (ndOf F (some d)).isNone) = true) (hvs : inA S O [] c.args.toList = some vs) (hf : ∀ q, (plainV (rr q) && fits (rr q) (F.shOf d)) = true) (hn : ∀ q, g q = some r0 → Vo P τ An F ds r k (.cons d (rr q) S) O) : Vo P τ An F ds (⟨some d, .call c, ty, pos, after, gd⟩ :: r) k S O := by
 obtain ⟨q, h1, h2⟩ := bind_some h
 have hq := hf q
 simp only [Bool.and_eq_true] at hk hq
 obtain ⟨⟨k1, k2⟩, k3⟩ := hk
 have e1 : osOf F c v = [] := by revert k1; cases osOf F c v <;> simp [nil']
 have e2 : caps = [] := by revert k2; cases caps <;> simp [nil']
 have e3 : ndOf F (some d) = none := by revert k3; cases ndOf F (some d) <;> simp
 subst e2
 refine ⟨fun x hm => ?_⟩
 obtain ⟨i1, i2⟩ := inA_ok hm hvs
 exact cl0 (v' := rr q) (hB q h1) (hm.gd hg) hc (hm.ev hx) i2 e1 e3 (by simp only [inV, List.map_nil, List.append_nil]; exact i1) (plainV_to hq.1) hq.2 ((hn q h2).run _ (hm.put d _))
/-- A call that is handed one object. -/
theorem wC1 {ρ β : Type} {o : Option ρ} {g : ρ → Option β} {r0 : β} {f : FuncId} {vs : List V} {rr : ρ → V} {c : Call} {v : Operand} {caps : List (Nat × Nat)} {ob : Nat} {cs : List T} {cs' : ρ → List T} (h : o.bind g = some r0) (hB : ∀ q, o = some q → Big P τ An (.fn f vs [cs] (rr q) none [cs' q] none)) (hg : gS ds S gd = some true) (hc : calleeV ⟨some d, .call c, ty, pos, after, gd⟩ = some (c, v)) (hx : evS S v = some (.one (.fn f caps)))
  (hk : osOf F c v = [ob]) (hnd : ndOf F (some d) = none) (hob : O.get ob = some cs) (hvs : inA S O [ob] c.args.toList = some (vs.take c.args.size)) (hcs : (vs.drop c.args.size) = caps.map (fun c => (V.one (.ptr c.1 c.2)).to (innO [ob]))) (hf : ∀ q, (plainV (rr q) && fits (rr q) (F.shOf d) && confs (cs' q) (F.obOf ob)) = true) (hn : ∀ q, g q = some r0 → Vo P τ An F ds r k (.cons d (rr q) S) (.cons ob (cs' q) O)) : Vo P τ An F ds (⟨some d, .call c, ty, pos, after, gd⟩ :: r) k S O := by
 obtain ⟨q, h1, h2⟩ := bind_some h
 have hq := hf q
 simp only [Bool.and_eq_true] at hq
 refine ⟨fun x hm => ?_⟩
 obtain ⟨i1, i2⟩ := inA_ok hm hvs
 exact cl1 (v' := rr q) (hB q h1) (hm.gd hg) hc (hm.ev hx) i2 hk hnd (hm.ob _ _ hob) (by simp only [inV]; rw [i1, ← hcs, List.take_append_drop]) (plainV_to hq.1.1) (by rw [hq.1.2, hq.2]; rfl) ((hn q h2).run _ ((hm.put d _).setO ob _))
end
end Go.Own

/- Walks in few words: one condition for each step. -/
namespace Go.Own
open Go.RowKit
set_option linter.unusedVariables false

section
variable (ds : List (Option Nat)) (F : FA) (τ : TypeId → Option TI) (S : SS V) (O : SS (List T)) (gd : Option (Nat × Bool)) (d : Nat)
def xG {α : Type} (a : Option α) : Option α := match gS ds S gd with
 | some true => a
 | _ => none
def xMvS (y : Operand) : Option V := xG ds S gd (match evS S y with
 | some v => bif !(mem d F.al) && thereV v && fits v (F.shOf d) then some v else none
 | none => none)
def xAsS (y : Operand) : Option V := xG ds S gd (match evS S y with
 | some v => bif thereV v && fits v (F.shOf d) then some v else none
 | none => none)
def xLdS (t : TypeId) (v : Operand) : Option V := xG ds S gd (match ldS τ S O t v with
 | some w => bif !(mem d F.al) && fits w (F.shOf d) then some w else none
 | none => none)
def xFdS (s : TypeId) (v : Operand) (f : Nat) : Option V := xG ds S gd (match fOff τ s f, evS S v with
 | some off, some w => (match fieldV off w with
  | some u => bif fits u (F.shOf d) then some u else none
  | none => none)
 | _, _ => none)
def xStS (t : TypeId) (v y : Operand) : Option (Nat × List T) := xG ds S gd (stS τ F S O t v y)
def xI2 (y z : Operand) : Option (IntKind × Int × Int) := xG ds S gd (match rdS S O y, rdS S O z with
 | some (.one (.c (.int κ a))), some (.one (.c (.int κ' b))) => bif decide (κ = κ') && fits (.one (.c (.int κ 0))) (F.shOf d) then some (κ, a, b) else none
 | _, _ => none)
def xC2 (y z : Operand) : Option (IntKind × Int × Int) := xG ds S gd (match rdS S O y, rdS S O z with
 | some (.one (.c (.int κ a))), some (.one (.c (.int κ' b))) => bif decide (κ = κ') && fits (Bo true) (F.shOf d) then some (κ, a, b) else none
 | _, _ => none)
def xS2 (y z : Operand) : Option (List UInt8 × List UInt8) := xG ds S gd (match rdS S O y, rdS S O z with
 | some (.one (.c (.str a))), some (.one (.c (.str b))) => bif fits (Bo true) (F.shOf d) then some (a, b) else none
 | _, _ => none)
def xNo (y : Operand) : Option Bool := xG ds S gd (match rdS S O y with
 | some (.one (.c (.bool a))) => bif fits (Bo true) (F.shOf d) then some a else none
 | _ => none)
def xPkS (c y z : Operand) : Option T := xG ds S gd (match evS S c with
 | some (.one (.c (.bool b))) => (match evS S (bif b then y else z) with
  | some (.one (.c t)) => bif scal t && fits (.one (.c t)) (F.shOf d) then some t else none
  | _ => none)
 | _ => none)
def xEtS (t j : Nat) : Option W := xG ds S gd (match S.get t with
 | some (.tup ws) => (match ws[j]? with
  | some w => bif fits (.one w) (F.shOf d) then some w else none
  | none => none)
 | _ => none)
def xNcS (v : Operand) : Option V := xG ds S gd (match evS S v with
 | some w => bif isP w && fits w (F.shOf d) then some w else none
 | none => none)
def xBxS (t : Nat) : Option (List T) := xG ds S gd (match (S.get t).bind cellsOfV with
 | some xs => bif confs xs (F.obOf d) then some xs else none
 | none => none)
def xAcS (t : TypeId) : Option (List T) := xG ds S gd (match zS τ t with
 | some cs => bif confs cs (F.obOf d) then some cs else none
 | none => none)
end

section
variable {P : Program} {τ : TypeId → Option TI} {An : FuncId → FA} {F : FA} {ds : List (Option Nat)} {r : List Oper} {k : Kt} {S : SS V} {O : SS (List T)} {ty : TypeId} {pos : String} {after : Array Edge} {gd : Option (Nat × Bool)} {d : Nat}
theorem xG_of {α : Type} {a : Option α} {b : α} (h : xG ds S gd a = some b) : gS ds S gd = some true ∧ a = some b := by
 unfold xG at h
 split at h
 ·rename_i e; exact ⟨e, h⟩
 ·cases h
theorem xMv {y : Operand} {v : V} (hq : xMvS ds F S gd d y = some v) (h : Vo P τ An F ds r k (.cons d v S) O) : Vo P τ An F ds (⟨some d, .move y, ty, pos, after, gd⟩ :: r) k S O := by
 obtain ⟨hg, hq⟩ := xG_of hq
 split at hq <;> try cases hq
 rename_i u e
 obtain ⟨c, hq⟩ := cond_some hq
 cases hq
 exact wMv hg e c h
theorem xAs {y : Operand} {v : V} (hq : xAsS ds F S gd d y = some v) (h : Vo P τ An F ds r k (.cons d v S) O) : Vo P τ An F ds (⟨some d, .assign y, ty, pos, after, gd⟩ :: r) k S O := by
 obtain ⟨hg, hq⟩ := xG_of hq
 split at hq <;> try cases hq
 rename_i u e
 obtain ⟨c, hq⟩ := cond_some hq
 cases hq
 exact wAs hg e c h
theorem xLd {t : TypeId} {v : Operand} {w : V} (hq : xLdS ds F τ S O gd d t v = some w) (h : Vo P τ An F ds r k (.cons d w S) O) : Vo P τ An F ds (⟨some d, .load t v, ty, pos, after, gd⟩ :: r) k S O := by
 obtain ⟨hg, hq⟩ := xG_of hq
 split at hq <;> try cases hq
 rename_i u e
 obtain ⟨c, hq⟩ := cond_some hq
 cases hq
 exact wLd hg e c h
theorem xFd {s : TypeId} {v : Operand} {f : Nat} {u : V} (hq : xFdS ds F τ S gd d s v f = some u) (h : Vo P τ An F ds r k (.cons d u S) O) : Vo P τ An F ds (⟨some d, .fieldAddr s v f, ty, pos, after, gd⟩ :: r) k S O := by
 obtain ⟨hg, hq⟩ := xG_of hq
 split at hq <;> try cases hq
 rename_i off w e1 e2
 split at hq <;> try cases hq
 rename_i u' e3
 obtain ⟨c, hq⟩ := cond_some hq
 cases hq
 exact wFd hg e1 e2 e3 c h
theorem xSt {t : TypeId} {v y : Operand} {ob : Nat} {cs : List T} (hq : xStS ds F τ S O gd t v y = some (ob, cs)) (h : Vo P τ An F ds r k S (.cons ob cs O)) : Vo P τ An F ds (⟨none, .store t v y, ty, pos, after, gd⟩ :: r) k S O := by
 obtain ⟨hg, hq⟩ := xG_of hq
 exact wSt hg hq h
section
variable {t t2 : TypeId} {y z : Operand} {κ : IntKind} {a b : Int}
theorem xI2_of (hq : xI2 ds F S O gd d y z = some (κ, a, b)) : gS ds S gd = some true ∧ rdS S O y = some (.one (.c (.int κ a))) ∧ rdS S O z = some (.one (.c (.int κ b))) ∧ fits (.one (.c (.int κ 0))) (F.shOf d) = true := by
 obtain ⟨hg, hq⟩ := xG_of hq
 split at hq <;> try cases hq
 rename_i e1 e2
 obtain ⟨c, hq2⟩ := cond_some hq
 clear hq
 simp only [Bool.and_eq_true, decide_eq_true_eq] at c
 obtain ⟨rfl, c⟩ := c
 cases hq2
 exact ⟨hg, e1, e2, c⟩
theorem xC2_of (hq : xC2 ds F S O gd d y z = some (κ, a, b)) : gS ds S gd = some true ∧ rdS S O y = some (.one (.c (.int κ a))) ∧ rdS S O z = some (.one (.c (.int κ b))) ∧ fits (Bo true) (F.shOf d) = true := by
 obtain ⟨hg, hq⟩ := xG_of hq
 split at hq <;> try cases hq
 rename_i e1 e2
 obtain ⟨c, hq2⟩ := cond_some hq
 clear hq
 simp only [Bool.and_eq_true, decide_eq_true_eq] at c
 obtain ⟨rfl, c⟩ := c
 cases hq2
 exact ⟨hg, e1, e2, c⟩
theorem xS2_of {a b : List UInt8} (hq : xS2 ds F S O gd d y z = some (a, b)) : gS ds S gd = some true ∧ rdS S O y = some (.one (.c (.str a))) ∧ rdS S O z = some (.one (.c (.str b))) ∧ fits (Bo true) (F.shOf d) = true := by
 obtain ⟨hg, hq⟩ := xG_of hq
 split at hq <;> try cases hq
 rename_i e1 e2
 obtain ⟨c, hq⟩ := cond_some hq
 cases hq
 exact ⟨hg, e1, e2, c⟩
theorem xAdd (hq : xI2 ds F S O gd d y z = some (κ, a, b)) (h : Vo P τ An F ds r k (.cons d (.one (.c (.int κ (κ.wrap (a + b))))) S) O) : Vo P τ An F ds (⟨some d, .binOp .add t y z t2, ty, pos, after, gd⟩ :: r) k S O := by
 obtain ⟨h1, h2, h3, h4⟩ := xI2_of hq; exact wAdd h1 h2 h3 h4 h
theorem xSub (hq : xI2 ds F S O gd d y z = some (κ, a, b)) (h : Vo P τ An F ds r k (.cons d (.one (.c (.int κ (κ.wrap (a - b))))) S) O) : Vo P τ An F ds (⟨some d, .binOp .sub t y z t2, ty, pos, after, gd⟩ :: r) k S O := by
 obtain ⟨h1, h2, h3, h4⟩ := xI2_of hq; exact wSub h1 h2 h3 h4 h
theorem xEq (hq : xC2 ds F S O gd d y z = some (κ, a, b)) (h : Vo P τ An F ds r k (.cons d (Bo (decide (a = b))) S) O) : Vo P τ An F ds (⟨some d, .binOp .eql t y z t2, ty, pos, after, gd⟩ :: r) k S O := by
 obtain ⟨h1, h2, h3, h4⟩ := xC2_of hq; exact wEq h1 h2 h3 h4 h
theorem xNe (hq : xC2 ds F S O gd d y z = some (κ, a, b)) (h : Vo P τ An F ds r k (.cons d (Bo (!decide (a = b))) S) O) : Vo P τ An F ds (⟨some d, .binOp .neq t y z t2, ty, pos, after, gd⟩ :: r) k S O := by
 obtain ⟨h1, h2, h3, h4⟩ := xC2_of hq; exact wNe h1 h2 h3 h4 h
theorem xLt (hq : xC2 ds F S O gd d y z = some (κ, a, b)) (h : Vo P τ An F ds r k (.cons d (Bo (decide (a < b))) S) O) : Vo P τ An F ds (⟨some d, .binOp .lss t y z t2, ty, pos, after, gd⟩ :: r) k S O := by
 obtain ⟨h1, h2, h3, h4⟩ := xC2_of hq; exact wLt h1 h2 h3 h4 h
theorem xLe (hq : xC2 ds F S O gd d y z = some (κ, a, b)) (h : Vo P τ An F ds r k (.cons d (Bo (decide (a ≤ b))) S) O) : Vo P τ An F ds (⟨some d, .binOp .leq t y z t2, ty, pos, after, gd⟩ :: r) k S O := by
 obtain ⟨h1, h2, h3, h4⟩ := xC2_of hq; exact wLe h1 h2 h3 h4 h
theorem xGt (hq : xC2 ds F S O gd d y z = some (κ, a, b)) (h : Vo P τ An F ds r k (.cons d (Bo (decide (b < a))) S) O) : Vo P τ An F ds (⟨some d, .binOp .gtr t y z t2, ty, pos, after, gd⟩ :: r) k S O := by
 obtain ⟨h1, h2, h3, h4⟩ := xC2_of hq; exact wGt h1 h2 h3 h4 h
theorem xEs {a b : List UInt8} (hq : xS2 ds F S O gd d y z = some (a, b)) (h : Vo P τ An F ds r k (.cons d (Bo (decide (a = b))) S) O) : Vo P τ An F ds (⟨some d, .binOp .eql t y z t2, ty, pos, after, gd⟩ :: r) k S O := by
 obtain ⟨h1, h2, h3, h4⟩ := xS2_of hq; exact wEs h1 h2 h3 h4 h
theorem xNs {a b : List UInt8} (hq : xS2 ds F S O gd d y z = some (a, b)) (h : Vo P τ An F ds r k (.cons d (Bo (!decide (a = b))) S) O) : Vo P τ An F ds (⟨some d, .binOp .neq t y z t2, ty, pos, after, gd⟩ :: r) k S O := by
 obtain ⟨h1, h2, h3, h4⟩ := xS2_of hq; exact wNs h1 h2 h3 h4 h
theorem xNot {b : Bool} (hq : xNo ds F S O gd d y = some b) (h : Vo P τ An F ds r k (.cons d (Bo (!b)) S) O) : Vo P τ An F ds (⟨some d, .unOp .not t y, ty, pos, after, gd⟩ :: r) k S O := by
 obtain ⟨hg, hq⟩ := xG_of hq
 split at hq <;> try cases hq
 rename_i e1
 obtain ⟨c, hq⟩ := cond_some hq
 cases hq
 exact wNot hg e1 c h
end
theorem xPk {c y z : Operand} {t : T} (hq : xPkS ds F S gd d c y z = some t) (h : Vo P τ An F ds r k (.cons d (.one (.c t)) S) O) : Vo P τ An F ds (⟨some d, .pick c y z, ty, pos, after, gd⟩ :: r) k S O := by
 obtain ⟨hg, hq⟩ := xG_of hq
 split at hq <;> try cases hq
 rename_i b e1
 split at hq <;> try cases hq
 rename_i t' e2
 obtain ⟨c, hq⟩ := cond_some hq
 cases hq
 exact wPk hg e1 e2 c h
theorem xEt {j t : Nat} {w : W} (hq : xEtS ds F S gd d t j = some w) (h : Vo P τ An F ds r k (.cons d (.one w) S) O) : Vo P τ An F ds (⟨some d, .extract (.tmp t) j, ty, pos, after, gd⟩ :: r) k S O := by
 obtain ⟨hg, hq⟩ := xG_of hq
 split at hq <;> try cases hq
 rename_i ws e1
 split at hq <;> try cases hq
 rename_i w' e2
 obtain ⟨c, hq⟩ := cond_some hq
 cases hq
 exact wEt hg e1 e2 c h
theorem xNc {v : Operand} {w : V} (hq : xNcS ds F S gd d v = some w) (h : Vo P τ An F ds r k (.cons d w S) O) : Vo P τ An F ds (⟨some d, .nilCheck v, ty, pos, after, gd⟩ :: r) k S O := by
 obtain ⟨hg, hq⟩ := xG_of hq
 split at hq <;> try cases hq
 rename_i w' e1
 obtain ⟨c, hq⟩ := cond_some hq
 cases hq
 exact wNc hg e1 c h
theorem xBx {e : TypeId} {t : Nat} {xs : List T} (hq : xBxS ds F S gd d t = some xs) (h : Vo P τ An F ds r k (.cons d (.one (.ptr d 0)) S) (.cons d xs O)) : Vo P τ An F ds (⟨some d, .box e (.tmp t), ty, pos, after, gd⟩ :: r) k S O := by
 obtain ⟨hg, hq⟩ := xG_of hq
 split at hq <;> try cases hq
 rename_i xs' e1
 obtain ⟨u, e2, e3⟩ := Option.bind_eq_some_iff.1 e1
 obtain ⟨c, hq⟩ := cond_some hq
 cases hq
 exact wBx hg e2 e3 c h
theorem xAc {t : TypeId} {cs : List T} (hq : xAcS ds F τ S gd d t = some cs) (h : Vo P τ An F ds r k (.cons d (.one (.ptr d 0)) S) (.cons d cs O)) : Vo P τ An F ds (⟨some d, .alloc t, ty, pos, after, gd⟩ :: r) k S O := by
 obtain ⟨hg, hq⟩ := xG_of hq
 split at hq <;> try cases hq
 rename_i cs' e1
 obtain ⟨c, hq⟩ := cond_some hq
 cases hq
 exact wAc hg e1 c h
/-- The same, the cells told by typed data. -/
theorem xAz {t : TypeId} (cs : List T) (hq : xAcS ds F τ S gd d t = some cs) (h : Vo P τ An F ds r k (.cons d (.one (.ptr d 0)) S) (.cons d cs O)) : Vo P τ An F ds (⟨some d, .alloc t, ty, pos, after, gd⟩ :: r) k S O := xAc hq h
theorem xLn {α : Type} {L : List α} {f : α → List T} {t : TypeId} {y : Operand} (hq : (gS ds S gd, isSlT τ t && fits (I64 0) (F.shOf d), rdS S O y) = (some true, true, some (.one (.c (.sl (L.map f)))))) (h : Vo P τ An F ds r k (.cons d (I64 L.length) S) O) : Vo P τ An F ds (⟨some d, .call { callee := .builtin .len, args := #[y], argTypes := #[t] }, ty, pos, after, gd⟩ :: r) k S O := by
 simp only [Prod.mk.injEq, Bool.and_eq_true] at hq
 obtain ⟨h1, ⟨h2, h3⟩, h4⟩ := hq
 unfold isSlT at h2
 split at h2
 ·rename_i e he; exact wLn h1 he h4 h3 h
 ·cases h2
theorem xLs {s : List UInt8} {t : TypeId} {y : Operand} (hq : (gS ds S gd, tk τ t, fits (I64 0) (F.shOf d), rdS S O y) = (some true, some .str, true, some (.one (.c (.str s))))) (h : Vo P τ An F ds r k (.cons d (I64 s.length) S) O) : Vo P τ An F ds (⟨some d, .call { callee := .builtin .len, args := #[y], argTypes := #[t] }, ty, pos, after, gd⟩ :: r) k S O := by
 simp only [Prod.mk.injEq] at hq
 obtain ⟨h1, h2, h3, h4⟩ := hq
 exact wLs h1 h2 h4 h3 h
/-- A call that is handed no objects. -/
theorem xC0 {ρ β : Type} {o : Option ρ} {g : ρ → Option β} {r0 : β} {f : FuncId} {vs : List V} {rr : ρ → V} {c : Call} {v : Operand} {caps : List (Nat × Nat)} (h : o.bind g = some r0) (hB : ∀ {q}, o = some q → Big P τ An (.fn f vs [] (rr q) none [] none))
  (hq : (gS ds S gd, calleeV ⟨some d, .call c, ty, pos, after, gd⟩, evS S v, nil' (osOf F c v) && nil' caps && (ndOf F (some d)).isNone, inA S O [] c.args.toList) = (some true, some (c, v), some (.one (.fn f caps)), true, some vs)) (hn : ∀ q, g q = some r0 → Vo P τ An F ds r k (.cons d (rr q) S) O) (hf : ∀ q, (plainV (rr q) && fits (rr q) (F.shOf d)) = true := by exact fun _ => rfl) : Vo P τ An F ds (⟨some d, .call c, ty, pos, after, gd⟩ :: r) k S O := by
 simp only [Prod.mk.injEq] at hq
 obtain ⟨h1, h2, h3, h4, h5⟩ := hq
 exact wC0 h (fun _ => hB) h1 h2 h3 h4 h5 hf hn
/-- A call that is handed one object. -/
theorem xC1 {ρ β : Type} {o : Option ρ} {g : ρ → Option β} {r0 : β} {f : FuncId} {vs : List V} {rr : ρ → V} {c : Call} {v : Operand} {caps : List (Nat × Nat)} {ob : Nat} {cs : List T} {cs' : ρ → List T} (h : o.bind g = some r0) (hB : ∀ {q}, o = some q → Big P τ An (.fn f vs [cs] (rr q) none [cs' q] none))
  (hq : (gS ds S gd, calleeV ⟨some d, .call c, ty, pos, after, gd⟩, evS S v, osOf F c v, ndOf F (some d), O.get ob, inA S O [ob] c.args.toList, vs.drop c.args.size) = (some true, some (c, v), some (.one (.fn f caps)), [ob], none, some cs, some (vs.take c.args.size), caps.map (fun c => (V.one (.ptr c.1 c.2)).to (innO [ob])))) (hn : ∀ q, g q = some r0 → Vo P τ An F ds r k (.cons d (rr q) S) (.cons ob (cs' q) O)) (hf : ∀ q, (plainV (rr q) && fits (rr q) (F.shOf d) && confs (cs' q) (F.obOf ob)) = true := by exact fun _ => rfl) : Vo P τ An F ds (⟨some d, .call c, ty, pos, after, gd⟩ :: r) k S O := by
 simp only [Prod.mk.injEq] at hq
 obtain ⟨h1, h2, h3, h4, h5, h6, h7, h8⟩ := hq
 exact wC1 h (fun _ => hB) h1 h2 h3 h4 h5 h6 h7 h8 hf hn
theorem xIx {α β : Type} {L : List α} {f : α → List T} {g : α → Option β} {r0 : β} {t : TypeId} {ei : TI} {v i : Operand} {κ : IntKind} {n : Int} {row : α → List T} (h : (ix L n).bind g = some r0) (hrow : ∀ a, f a = row a) (hq : (gS ds S gd, elS τ t, evS S v, evS S i) = (some true, some ei, some (.one (.c (.sl (L.map f)))), some (.one (.c (.int κ n)))))
  (hn : ∀ a, g a = some r0 → Vo P τ An F ds r k (.cons d (.one (.cp (row a))) S) O) (hf : ∀ a, (Nat.beq (row a).length ei.size && fits (.one (.cp (row a))) (F.shOf d)) = true := by exact fun _ => rfl) : Vo P τ An F ds (⟨some d, .indexAddr t v i, ty, pos, after, gd⟩ :: r) k S O := by
 simp only [Prod.mk.injEq] at hq
 obtain ⟨h1, h2, h3, h4⟩ := hq
 exact wIx h h1 h2 h3 h4 hrow hf hn

/-! regions' ends -/
theorem oRs {id : Nat} {ops : List Oper} {dr : Bool} {b : Code} (h : Vo P τ An F (ops.map (·.dst)) ops (.seq b k) S O) (hm : look id F.mks = none := by exact rfl) : Vo P τ An F ds [] (.seq (.seq (.region id ops.toArray dr) b) k) S O := oNl (cRs h hm)
end
end Go.Own

/- A row's arguments: what is read of them becomes what the slots tell. -/
namespace Go.Own
open Go.RowKit

def kOk (q : K) (x : T) : Bool := match q with
 | .F => true
 | .S => scal x
 | _ => false
theorem lf_of {w : World} {q : K} {l : Loc} {c : Value} {x : T} (hk : kOk q x = true) (h : Rd (frz G.old w) w c x) : LF G.old w q l c x := by
 cases q with
 | F => exact h
 | S => exact ⟨hk, h.nowhere hk⟩
 | _ => cases hk
/-- Any other value that came in. -/
theorem rv_c {w : World} {v : Value} {x : T} {κ : Nat → Nat → K} {l : Nat → Nat → Loc} (h : CR w [v] [x]) (hk : kOk (κ 0 0) x = true) : RV G.old w κ l v (.one (.c x)) := by
 obtain ⟨n1, n2⟩ := h.2 0 v x rfl rfl
 exact ⟨n1, lf_of hk n2⟩
end Go.Own

/- Reading at an element of a slice that lies in a place. -/
namespace Go.Own
open Go.RowKit
set_option linter.unusedVariables false
section
variable {P : Program} {τ : TypeId → Option TI} {An : FuncId → FA} {F : FA} {ds : List (Option Nat)} {r : List Oper} {k : Kt} {S : SS V} {O : SS (List T)} {ty : TypeId} {pos : String} {after : Array Edge} {gd : Option (Nat × Bool)} {d : Nat}
end
end Go.Own

/- Walks in few words: what is turned in place by a callee. -/
namespace Go.Own
open Go.RowKit
set_option linter.unusedVariables false

theorem nav1 {α : Type} {L : List α} {f : α → List T} {a : α} {i : Int} {j : Nat} {y : T} (h : ix L i = some a) (hy : (f a)[j]? = some y) : nav (.sl (L.map f)) [(i.toNat, j)] = some y := by
 unfold ix at h
 split at h <;> try cases h
 have hrw : (L.map f)[i.toNat]? = some (f a) := by rw [List.getElem?_map, h]; rfl
 have e : ∀ z : T, nav z [] = some z := fun z => by cases z <;> rfl
 simp only [nav, hrw, Option.bind_some, hy, e]
theorem setAt1 {α : Type} {L : List α} {f : α → List T} {a a' : α} {i : Int} {j : Nat} {y0 y : T} (h : ix L i = some a) (hy : (f a)[j]? = some y0) (hs : (f a).set j y = f a') : setAt (.sl (L.map f)) [(i.toNat, j)] y = .sl ((L.set i.toNat a').map f) := by
 unfold ix at h
 split at h <;> try cases h
 have hrw : (L.map f)[i.toNat]? = some (f a) := by rw [List.getElem?_map, h]; rfl
 have e : ∀ z : T, setAt z [] y = y := fun z => by cases z <;> rfl
 rw [setAt_cons hrw hy, e, hs, List.map_set]
theorem nav0 (z : T) : nav z [] = some z := by cases z <;> rfl
theorem setAt0 (z y : T) : setAt z [] y = y := by cases z <;> rfl

section
variable {P : Program} {τ : TypeId → Option TI} {An : FuncId → FA} {F : FA} {ds : List (Option Nat)} {r : List Oper} {k : Kt} {S : SS V} {O : SS (List T)} {ty : TypeId} {pos : String} {after : Array Edge} {gd : Option (Nat × Bool)} {d : Nat}
/-- A part of an element, as an alias. -/
theorem wLq {α : Type} {L : List α} {f : α → List T} {a : α} {i : Int} {t : TypeId} {v : Operand} {ti : TI} {l : Loc} {m j : Nat} {cs : List T} (hix : ix L i = some a) (hg : gS ds S gd = some true) (ht : τ t = some ti) (hv : evS S v = some (.one (.pp l [] m j))) (hm : m = i.toNat) (hk : zerok l = true) (hr : atS S O l = some (.sl (L.map f))) (hal : mem d F.al = true) (hc : f a = cs) (hl : (isSlT τ t && slT (cs[j]?)) = true) (hf : fits (.one (.al l [(0, 0)])) (F.shOf d) = true)
  (h : Vo P τ An F ds r k (.cons d (.one (.al l [(i.toNat, j)])) S) O) : Vo P τ An F ds (⟨some d, .load t v, ty, pos, after, gd⟩ :: r) k S O := by
 subst hm hc
 unfold ix at hix
 split at hix <;> try cases hix
 have hrw : (L.map f)[i.toNat]? = some (f a) := by rw [List.getElem?_map, hix]; rfl
 refine ⟨fun x hx => step_run (x1 := x.put d (.one (.al l [(i.toNat, j)]))) (hx.gd hg) rfl ?_ (h.run _ (hx.put d _))⟩
 show (bif mem d F.tk && (!(mem d F.al) && isPpV (ev x.sl v)) then dLoadT τ F x d t v else dLoad τ F x d t v (mem d F.al)) = _
 rw [show (mem d F.tk && (!(mem d F.al) && isPpV (ev x.sl v))) = false by rw [hal]; simp, cond_false]
 unfold dLoad
 simp only [ht, hx.ev hv, hal, hx.at (zerok_of hk) hr, Option.bind_some, nav, hrw, cond_true, hl, List.nil_append]
 refine putD_eq ?_
 revert hf
 cases F.shOf d with
 | tup ws => simp [fits]
 | one w => cases w <;> simp [fits, fitsW]

/-- A call whose first argument is turned in place. -/
theorem xIo {ρ β : Type} {o : Option ρ} {g : ρ → Option β} {r0 : β} {f : FuncId} {vs' : List V} {rr : ρ → V} {es' : ρ → List (List T)} {c : Call} {v : Operand} {t : Nat} {xs : List Operand} {l : Loc} {p : List (Nat × Nat)} {x0 : T} {es : List (List T)} (z : ρ → T) (h : o.bind g = some r0) (hB : ∀ {q}, o = some q → Big P τ An (.fn f (.one (.c (.sl es)) :: vs') [] (rr q) (some (.sl (es' q))) [] none))
  (hq : (gS ds S gd, calleeV ⟨some d, .call c, ty, pos, after, gd⟩, evS S v, ioArg F c, c.args.toList, S.get t, atS S O l, inA S O [] xs) = (some true, some (c, v), some (.one (.fn f [])), true, .tmp t :: xs, some (.one (.al l p)), some x0, some vs')) (hnav : nav x0 p = some (.sl es)) (hz : ∀ q, setAt x0 p (.sl (es' q)) = z q)
  (hn : ∀ q, g q = some r0 → Vo P τ An F ds r k (updS (.cons d (rr q) S) l (z q)) (updO O l (z q))) (hf : ∀ q, (plainV (rr q) && fits (rr q) (F.shOf d)) = true := by exact fun _ => rfl) (hk : ∀ q, (zerok l && isC (.cons d (rr q) S) l, atS (.cons d (rr q) S) O l) = (true, some x0) := by exact fun _ => rfl) : Vo P τ An F ds (⟨some d, .call c, ty, pos, after, gd⟩ :: r) k S O := by
 obtain ⟨q, h1, h2⟩ := bind_some h
 simp only [Prod.mk.injEq] at hq
 obtain ⟨k1, k2, k3, k4, k5, k6, k7, k8⟩ := hq
 have hfq := hf q
 simp only [Bool.and_eq_true] at hfq
 have hkq := hk q
 simp only [Prod.mk.injEq, Bool.and_eq_true] at hkq
 obtain ⟨⟨m1, m2⟩, m3⟩ := hkq
 have hto : (rr q).to (outN [] none) = rr q := plainV_to hfq.1
 refine ⟨fun x hx => ?_⟩
 obtain ⟨i1, i2⟩ := inA_ok hx k8
 have hxt : x.sl t = .one (.al l p) := hx.sl t _ k6
 have hat : x.at l = some x0 := hx.at (zerok_of m1) k7
 have hcall : x.call (some d) none [] (DR (rr q) (some (.sl (es' q))) [] none) = x.put d (rr q) := D.ext (fun i => by
  simp only [D.call, D.put, Option.some.injEq]
  by_cases e : d = i
  ·rw [if_pos e, if_pos e.symm]; exact hto
  ·rw [if_neg e, if_neg (fun h => e h.symm)]) (fun o => by simp [D.call, D.put, innN])
 have hth : c.args.toList.all (fun v => thereV (ev x.sl v)) = true := by
  rw [k5, List.all_cons, i2, Bool.and_true]
  show thereV (x.sl t) = true
  rw [hxt]; rfl
 have hvs : inV x c [] [] = .one (.c (.sl es)) :: vs' := by
  simp only [inV, k5, List.map_cons, List.map_nil, List.append_nil, i1]
  congr 1
  show (resV x.sl x.ob (x.sl t)).to _ = _
  have hat' : atL x.sl x.ob l = some x0 := hat
  rw [hxt]
  simp only [resV, hat', Option.bind_some, hnav]
  rfl
 refine step_io (hx.gd k1) k2 k4 (hx.ev k3) hth k5 hxt hat hnav hvs (hB h1) ?_ ?_
 ·show callShapes F (x.call (some d) none [] _) (some d) none [] = true
  rw [hcall]
  simp [callShapes, names, D.put, hfq.2]
 ·show vcOps P τ An F ds r ((x.call (some d) none [] _).upd l _) _
  rw [hcall, hz q]
  exact (hn q h2).run _ ((hx.put d _).upd m1 m2 m3)
end

section
variable {P : Program} {τ : TypeId → Option TI} {An : FuncId → FA} {F : FA} {S : SS V} {O : SS (List T)}
def FQi (τ : TypeId → Option TI) (F : FA) (rs : List ResultVar) (ob : List (List T)) (r : V) (y : T) (ob' : List (List T)) (nw : Option (List T)) (e : Ek) (x : D) : Prop := FQ τ F rs ob r ob' nw e x ∧ ∃ z, F.io = some z ∧ x.sl z = .one (.c y)
def ioS (F : FA) (S : SS V) : Option V := F.io.bind S.get
theorem eRi {rs : List ResultVar} {ob ob' : List (List T)} {r : V} {y : T} {nw : Option (List T)} {ws : List W} (h1 : resSs τ S O rs = some ws) (h2 : (retV ws).to (retO F.n0) = r) (h3 : obsS O 0 ob = some ob') (h4 : nwS O F.n0 = some nw) (h5 : ioS F S = some (.one (.c y))) : Fin' (FQi τ F rs ob r y ob' nw) .r S O := ⟨fun x hx => by
 unfold ioS at h5
 obtain ⟨z, e1, e2⟩ := Option.bind_eq_some_iff.1 h5
 exact ⟨(eR h1 h2 h3 h4).run x hx, z, e1, hx.sl z _ e2⟩⟩
theorem bFi {f : FuncId} {fn : Func} {c : Code} {vs : List V} {ob ob' : List (List T)} {r : V} {y : T} {nw : Option (List T)} (hf : P.funcs[f]? = some fn) (hb : fn.body = some c) (hq : (shapesIn (An f) 0 vs && shapesOb (An f) 0 ob && (An f).io.isSome) = true)
  (h : Vc P τ An (An f) c (.top (FQi τ (An f) fn.results.toList ob r y ob' nw)) (.many (pars 0 vs) .nil) (.many (parO 0 ob) .nil)) : Big P τ An (.fn f vs ob r (some y) ob' nw) := by
 simp only [Bool.and_eq_true] at hq
 obtain ⟨z, hz⟩ := Option.isSome_iff_exists.1 hq.2
 refine Big.ofIo hf hb hq.1.1 hq.1.2 hz (vcC_mono (fun e x hh => ?_) (h.run _ Mt.start))
 obtain ⟨⟨h0, ws, h1, h2, h3, h4⟩, z', e1, e2⟩ := hh
 rw [hz] at e1; cases e1
 exact ⟨h0, ws, h1, h2, h3, h4, e2⟩
end
end Go.Own

/- Walks in few words: a region that hands a struct to a function that turns its slices. -/
namespace Go.Own
open Go.RowKit
set_option linter.unusedVariables false

theorem setO_setO (x : D) (o : Nat) (c1 c2 : List T) : (x.setO o c1).setO o c2 = x.setO o c2 := D.ext (fun _ => rfl) (fun i => by
 simp only [D.setO]
 by_cases e : i = o
 ·rw [if_pos e, if_pos e]
 ·rw [if_neg e, if_neg e, if_neg e])
theorem updM_eq {o p0 : Nat} {cells' : List T} {k' : Int} : ∀ {rs : List MR} {x : D} {cells : List T} {k : Int}, x.ob o = some cells → chainM p0 rs cells k cells' k' → D.updM o p0 rs x = x.setO o cells'
 | [], x, cells, k, h, hc => by
  obtain ⟨rfl, _⟩ := hc
  refine D.ext (fun _ => rfl) (fun i => ?_)
  simp only [D.updM, D.setO]
  by_cases e : i = o
  ·rw [if_pos e, e, h]
  ·rw [if_neg e]
 | m :: r, x, cells, k, h, hc => by
  obtain ⟨h1, h2, h3⟩ := hc
  simp only [D.updM]
  rw [upd_cell h, updM_eq (x := x.setO o _) (by simp [D.setO]) h3, setO_setO]
section
variable {P : Program} {τ : TypeId → Option TI} {An : FuncId → FA} {F : FA} {S : SS V} {O : SS (List T)} {κ : Kt}
def allB (P : Program) (τ : TypeId → Option TI) (An : FuncId → FA) : List MR → Prop
 | [] => True
 | m :: r => Big P τ An (.fn m.g [.one (.c (.sl m.es)), .one (.c (.int .i64 m.k))] [] (.one (.c (.int .i64 m.k1))) (some (.sl m.es')) [] none) ∧ allB P τ An r
theorem allB_of : ∀ {rs : List MR}, allB P τ An rs → ∀ m ∈ rs, Big P τ An (.fn m.g [.one (.c (.sl m.es)), .one (.c (.int .i64 m.k))] [] (.one (.c (.int .i64 m.k1))) (some (.sl m.es')) [] none)
 | m :: r, h, x, hx => by
  rcases List.mem_cons.1 hx with rfl | hx
  ·exact h.1
  ·exact allB_of h.2 x hx
theorem cMk {id : Nat} {T' : TypeId} {i : TI} {f : FuncId} {c : Call} {o p0 tp tk t t' r r0 r2 : Nat} {cells cells' : List T} {k k' : Int} {t1 t2 t3 t4 : TypeId} {p1 p2 p3 p4 : String} {f1 f2 f3 f4 : Array Edge} {b : Code} (rs : List MR) (hM : Marks P f i.agg i.size (rs.map fun m => (m.off, m.g))) (hB : allB P τ An rs)
  (hq : (look id F.mks, τ T', S.get tp, S.get tk, O.get o, c.callee, c.args) = (some (rs.map fun m => (m.off, m.g)), some i, some (.one (.ptr o p0)), some (vI k), some cells, .value (.func f), #[.tmp t, .tmp t'])) (hl : (Nat.ble (p0 + i.size) cells.length && (i.agg || Nat.beq i.size 1) && Nat.beq r2 r) = true) (hch : chainM p0 rs cells k cells' k')
  (h : Vc P τ An F b κ (.cons r0 (vI k') S) (.cons o cells' O)) : Vc P τ An F (.seq (.region id #[⟨some t, .load T' (.tmp tp), t1, p1, f1, none⟩, ⟨some t', .move (.tmp tk), t2, p2, f2, none⟩, ⟨some r, .call c, t3, p3, f3, none⟩, ⟨some r0, .assign (.tmp r2), t4, p4, f4, none⟩] false) b) κ S O := by
 simp only [Prod.mk.injEq] at hq
 obtain ⟨q1, q2, q3, q4, q5, q6, q7⟩ := hq
 simp only [Bool.and_eq_true, Bool.or_eq_true] at hl
 refine ⟨fun x hx => .inr ⟨_, .regionM q1 q2 (fun e => ?_) hM (Nat.le_of_ble_eq_true hl.1.1) q6 q7 (Nat.eq_of_beq_eq_true hl.2) (hx.sl _ _ q3) (hx.sl _ _ q4) (hx.ob _ _ q5) hch (allB_of hB), ?_⟩⟩
 ·rcases hl.1.2 with h1 | h1
  ·rw [h1] at e; cases e
  ·exact Nat.eq_of_beq_eq_true h1
 ·rw [updM_eq (hx.ob _ _ q5) hch]
  exact h.run _ ((hx.setO o cells').put r0 _)
end
end Go.Own

/- Walks in few words: calls that are handed several objects. -/
namespace Go.Own
open Go.RowKit
set_option linter.unusedVariables false

section
variable {P : Program} {τ : TypeId → Option TI} {An : FuncId → FA} {F : FA} {ds : List (Option Nat)} {r : List Oper} {ty : TypeId} {pos : String} {after : Array Edge} {gd : Option (Nat × Bool)} {d : Nat} {x : D} {K : D → Prop}
end
section
variable {P : Program} {τ : TypeId → Option TI} {An : FuncId → FA} {F : FA} {ds : List (Option Nat)} {r : List Oper} {k : Kt} {S : SS V} {O : SS (List T)} {ty : TypeId} {pos : String} {after : Array Edge} {gd : Option (Nat × Bool)} {d : Nat}
end
end Go.Own

/- Walks in few words: what is stored into an element, under a name. -/
namespace Go.Own
open Go.RowKit
set_option linter.unusedVariables false

section
variable {P : Program} {τ : TypeId → Option TI} {An : FuncId → FA} {F : FA} {ds : List (Option Nat)} {r : List Oper} {k : Kt} {S : SS V} {O : SS (List T)} {ty : TypeId} {pos : String} {after : Array Edge} {gd : Option (Nat × Bool)} {d : Nat}
theorem wSpN {α β : Type} {L : List α} {f : α → List T} {a v' : α} {i : Int} {t : TypeId} {v y : Operand} {ti : TI} {l : Loc} {m j : Nat} {xs : List T} {g : List α → Option β} {r0 : β} (h : (some (L.set i.toNat v')).bind g = some r0) (hix : ix L i = some a) (hg : gS ds S gd = some true) (ht : τ t = some ti) (hv : evS S v = some (.one (.pp l [] m j))) (hm : m = i.toNat) (hk : (zerok l && isC S l) = true) (hr : atS S O l = some (.sl (L.map f))) (hy : (evS S y).bind cellsOfV = some xs) (hq : (Nat.beq xs.length ti.size && Nat.ble (j + xs.length) (f a).length) = true)
  (hrow : (f a).take j ++ xs ++ (f a).drop (j + xs.length) = f v') (hn : ∀ M, g M = some r0 → Vo P τ An F ds r k (updS S l (.sl (M.map f))) (updO O l (.sl (M.map f)))) : Vo P τ An F ds (⟨none, .store t v y, ty, pos, after, gd⟩ :: r) k S O :=
 wSp hix hg ht hv hm hk hr hy hq hrow (hn _ h)
theorem xIoN {ρ β α : Type} {o : Option ρ} {g : ρ → List α → Option β} {r0 : β} {f : FuncId} {vs' : List V} {rr : ρ → V} {es' : ρ → List (List T)} {c : Call} {v : Operand} {t : Nat} {xs : List Operand} {l : Loc} {p : List (Nat × Nat)} {x0 : T} {es : List (List T)} (rf : α → List T) (Z : ρ → List α) (h : (o.bind fun q => (some (Z q)).bind (g q)) = some r0) (hB : ∀ {q}, o = some q → Big P τ An (.fn f (.one (.c (.sl es)) :: vs') [] (rr q) (some (.sl (es' q))) [] none))
  (hq : (gS ds S gd, calleeV ⟨some d, .call c, ty, pos, after, gd⟩, evS S v, ioArg F c, c.args.toList, S.get t, atS S O l, inA S O [] xs) = (some true, some (c, v), some (.one (.fn f [])), true, .tmp t :: xs, some (.one (.al l p)), some x0, some vs')) (hnav : nav x0 p = some (.sl es)) (hz : ∀ q, setAt x0 p (.sl (es' q)) = .sl ((Z q).map rf))
  (hn : ∀ q M, g q M = some r0 → Vo P τ An F ds r k (updS (.cons d (rr q) S) l (.sl (M.map rf))) (updO O l (.sl (M.map rf)))) (hf : ∀ q, (plainV (rr q) && fits (rr q) (F.shOf d)) = true := by exact fun _ => rfl) (hk : ∀ q, (zerok l && isC (.cons d (rr q) S) l, atS (.cons d (rr q) S) O l) = (true, some x0) := by exact fun _ => rfl) : Vo P τ An F ds (⟨some d, .call c, ty, pos, after, gd⟩ :: r) k S O :=
 xIo (fun q => .sl ((Z q).map rf)) h hB hq hnav hz (fun q e => hn q _ e) hf hk
end
end Go.Own

/- Functions of the library: slices.Grow of no slice. -/
namespace Go.Own
open Go.RowKit

theorem callFunc_enter {P : Program} {f : FuncId} {fn : Func} {c : Code} (hf : P.funcs[f]? = some fn) (hb : fn.body = some c) (hne : fn.name ≠ "runtime.NumGoroutine") (us : Array Value) (w : World) : (callFunc f us).run P w = .ok (.enter f us) w := by
 simp [callFunc, run_program, hf, hne, hb]
/-- A result, a slice that is its holder's or none's. -/
theorem lib_end {P : Program} {g g' : G} {w w' : World} {bi : B} {x : D} {us : Array Value} {n : Nat} (_hs : SimG g w (bi.S n x) ⟨us, []⟩ g w) {κ : K} {u v2 : Value} {t : T} (hfr : Framed g w g' w') (hok : GOk g' w') (hβ : g'.β = g.β) (hu : nagg u ∧ LF g' w' κ (.s 0 0 0) u t) :
  SimG g w (({ sl := [(0, [[κ]])], ob := [] } : B).S 2 (DR (.one (.c t)) none [] none)) ⟨#[u, v2], []⟩ g' w' := by
 have _ := P
 refine ⟨hfr, hok, rfl, rfl, fun i => ?_, fun o cells h => ?_, fun i h1 h2 => ?_, fun o _ => by rw [hβ], by show 2 ≤ par; decide⟩
 ·cases i with
  | zero => exact hu
  | succ i => exact trivial
 ·simp only [B.S, B.hasO, look] at h
  cases h
 ·exfalso
  cases i with
  | zero => exact h1 rfl
  | succ i => exact h1 rfl
section
variable {P : Program} {τ : TypeId → Option TI} {An : FuncId → FA} {F : FA} {ds : List (Option Nat)} {r : List Oper} {k : Kt} {S : SS V} {O : SS (List T)} {gd : Option (Nat × Bool)} {d : Nat} {ty : TypeId} {pos : String} {after : Array Edge}
end
end Go.Own

/- Checks in parts: drawn regions' outcomes told ahead, each checked by itself. -/
namespace Go.Own
open Go.RowKit

end Go.Own

/- Shifts by a value. -/
namespace Go.Own
open Go.RowKit
section
variable {P : Program} {τ : TypeId → Option TI} {An : FuncId → FA} {F : FA} {ds : List (Option Nat)} {r : List Oper} {k : Kt} {S : SS V} {O : SS (List T)} {gd : Option (Nat × Bool)} {d : Nat} {ty : TypeId} {pos : String} {after : Array Edge}
end
end Go.Own

/- Functions of the library: slices.Clone of elements that are scalars. -/
namespace Go.Own
open Go.RowKit

/-- A row of scalars that is new. -/
theorem ow_row {Z : Nat → Prop} {w w0 : World} {F P0 : Nat → Prop} {g1 cap n s : Nat} {cur : Array Value} {e : TypeId} {es : List (List T)} {news : List Value} {t : Option Nat} (hh : w.heap[g1]? = some (.cells cur e (0, 0))) (hl : es.length = n) (hc : n ≤ cap) (hcap : cap ≤ maxLen) (hsz : cur.size = cap * s) (htk : cur.toList.take (n * s) = news) (hF : F g1) (ht : ∀ s0, t = some s0 → s = s0)
  (hr : ∀ (i : Nat) e (j : Nat) x, es[i]? = some e → e[j]? = some x → ∃ u, news[i * s + j]? = some u ∧ Rd P0 w0 u x ∧ scal x = true) (hs : ∀ (i : Nat) (e : List T), es[i]? = some e → e.length = s) : Ow Z true w t F (.slice (some ⟨g1, 0, none⟩) n cap) (.sl es) := by
 refine .sl t F g1 n cap s cur e es (fun k => (k, k)) (fun i j => news.getD (i * s + j) undef) ht hF hh hl hc hcap hs hsz (fun i e j x h1 h2 => ?_) (fun i e j x h1 h2 => ?_)
 ·obtain ⟨u, u1, _, _⟩ := hr i e j x h1 h2
  have hlt : i * s + j < n * s := by
   have := get_lt u1
   rw [← htk, List.length_take] at this
   omega
  have h3 : cur.toList[i * s + j]? = some u := by
   rw [← htk, List.getElem?_take, if_pos hlt] at u1; exact u1
  rw [Array.getElem?_toList] at h3
  rw [h3, List.getD_eq_getElem?_getD, u1]; rfl
 ·obtain ⟨u, u1, u2, u3⟩ := hr i e j x h1 h2
  rw [List.getD_eq_getElem?_getD, u1]
  exact u2.ow u3
theorem getD_one {us : Array Value} {a : Value} (h : us.size = 1) (h0 : us.getD 0 undef = a) : us = #[a] := by
 apply Array.ext
 ·rw [h]; rfl
 ·intro i hi hi2
  have : i = 0 := by simp at hi2; omega
  subst this
  rw [← h0]; simp [Array.getD, hi]
def newsOf (s len : Nat) (cs : Nat → Nat → Value) : List Value := (List.range (len * s)).map fun k => cs (k / s) (k % s)
/-- slices.Clone. -/
theorem cloneTC {P : Program} {f : FuncId} {fn : Func} {c : Code} {s : Nat} {E : TypeId} {es : List (List T)} (hf : P.funcs[f]? = some fn) (hb : fn.body = some c) (hne : fn.name ≠ "runtime.NumGoroutine") (hsp : 0 < s) (hes : ∀ e ∈ es, e.length = s ∧ e.all scal = true) (hlen : es.length ≤ maxLen)
  (hnil : ∀ n k w, Calls P f #[.slice none n k] w (fun e w' => e = .returned (.slice none 0 0) ∧ w' = w))
  (hc : ∀ (ad : Addr) (k : Nat) (news : List Value) (w : World), news.length = es.length * s → (∀ j u, news[j]? = some u → w.cell? (ad.add j) = some u) → (∀ u ∈ news, u.oneCell' = true) → Calls P f #[.slice (some ad) es.length k] w (fun e w' => ∃ v', e = .returned v' ∧ w'.ownsRow w.heap.size E s v' es.length news ∧ Below w.heap.size w w')) :
  TC P f (libSg ([[[.F]]], [[.U s]], false)) [.one (.c (.sl es))] [] (.one (.c (.sl es))) none [] none := by
 intro g w us hs
 have h0 : RV g w (fun _ _ => .F) (fun k j => .s 0 k j) (us.getD 0 undef) (.one (.c (.sl es))) := hs.slots 0
 obtain ⟨_, hrd⟩ := h0
 have hrd : Rd (frz g w) w (us.getD 0 undef) (.sl es) := hrd
 have hz : us.size = 1 := hs.size
 obtain ⟨v, hv⟩ : ∃ v, us.getD 0 undef = v := ⟨_, rfl⟩
 obtain rfl := getD_one hz hv
 rw [callFunc_enter hf hb hne]
 show Calls P f _ w _
 rw [hv] at hrd
 have endW : ∀ w' v', Below w.heap.size w w' → (v' = .slice none 0 0 ∧ es = [] ∨ ∃ g1 cap cur, v' = .slice (some ⟨g1, 0, none⟩) es.length cap ∧ w.heap.size ≤ g1 ∧ w'.heap[g1]? = some (.cells cur E (0, 0)) ∧ Ow (fun _ => False) true w' (some s) (fun b => b = g1) v' (.sl es)) →
   ∃ g', SimG g w ((libSg ([[[.F]]], [[.U s]], false)).bo.S 2 (DR (.one (.c (.sl es))) none [] none)) ⟨#[v', #[v].getD ((libSg ([[[.F]]], [[.U s]], false)).io.getD 0) undef], []⟩ g' w' := by
  intro w' v' hB hcase
  rcases hcase with ⟨rfl, rfl⟩ | ⟨g1, cap, cur, hv', hge, hh, hOw⟩
  ·refine ⟨g, lib_end (P := P) hs ⟨hB.os, hB.tape, hB.output, ⟨hB.size, fun b hb _ => ⟨rfl, hB.block b hb⟩⟩⟩ ⟨fun b hb => Nat.lt_of_lt_of_le (hs.ok.own b hb) hB.size⟩ rfl ⟨⟨by simp, by simp⟩, ?_⟩⟩
   exact .nil _ _ none
  ·have hlt : g1 < w'.heap.size := by
    have := Array.getElem?_eq_some_iff.1 hh
    exact this.1
   refine ⟨{ β := g.β, own := fun b => if b = g1 then .s 0 0 0 else g.own b }, lib_end (P := P) hs ⟨hB.os, hB.tape, hB.output, ⟨hB.size, fun b hb _ => ⟨if_neg (by omega), hB.block b hb⟩⟩⟩ ⟨fun b hb => ?_⟩ rfl ⟨⟨by rw [hv']; simp, by rw [hv']; simp⟩, ?_⟩⟩
   ·by_cases e : b = g1
    ·omega
    ·have hb' : (if b = g1 then Loc.s 0 0 0 else g.own b) ≠ .none := hb
     rw [if_neg e] at hb'
     exact Nat.lt_of_lt_of_le (hs.ok.own b hb') hB.size
   ·show Ow _ true w' (stride s) _ v' (.sl es)
    rw [stride_pos hsp]
    exact hOw.mono (fun h => h) (fun h => by cases h) (fun b hb => ⟨by subst hb; exact if_pos rfl, rfl⟩)
 cases hrd with
 | nil a cap =>
  cases a with
  | none =>
   refine (hnil 0 cap w).mono ?_
   rintro e w' ⟨rfl, rfl⟩
   refine ⟨_, rfl, ?_⟩
   exact endW w' _ (Below.refl _ _) (.inl ⟨rfl, rfl⟩)
  | some ad =>
   refine (hc ad cap [] w (by simp) (fun j u h => by simp at h) (fun u h => by simp at h)).mono ?_
   rintro e w' ⟨v', rfl, ⟨_, hown⟩, hB⟩
   refine ⟨_, rfl, ?_⟩
   refine endW w' v' hB ?_
   rcases hown with ⟨h, _⟩ | ⟨g1, cap1, cur, h1, h2, h3, h4, h5, h6, h7⟩
   ·exact .inl ⟨h, rfl⟩
   ·refine .inr ⟨g1, cap1, cur, h1, h2, h3, ?_⟩
    rw [h1]
    exact ow_row (w0 := w) (P0 := fun _ => False) h3 rfl h4 h5 h6 h7 rfl (fun s0 h => by cases h; rfl) (fun i e j x h => by simp at h) (fun i e h => by simp at h)
 | sl b off len cap s' _ cs hl hcc hss hP hm hr =>
  have hs' : ∀ (i : Nat) (e : List T), es[i]? = some e → e.length = s := fun i e h => (hes e (List.mem_of_getElem? h)).1
  have hnat : ∀ k, k < es.length * s → k / s < es.length ∧ k % s < s := fun k hk => ⟨Nat.div_lt_of_lt_mul (by rw [Nat.mul_comm]; exact hk), Nat.mod_lt _ hsp⟩
  have hcell : ∀ k, k < es.length * s → ∃ e x, es[k / s]? = some e ∧ e[k % s]? = some x ∧ s' = s := fun k hk => by
   obtain ⟨q1, q2⟩ := hnat k hk
   refine ⟨es[k / s], (es[k / s])[k % s]'(by rw [hs' _ _ (List.getElem?_eq_getElem q1)]; exact q2), List.getElem?_eq_getElem q1, List.getElem?_eq_getElem _, ?_⟩
   rw [← hss _ _ (List.getElem?_eq_getElem q1), hs' _ _ (List.getElem?_eq_getElem q1)]
  have hnews : ∀ (k : Nat) u, (newsOf s es.length cs)[k]? = some u → k < es.length * s ∧ u = cs (k / s) (k % s) := fun k u h => by
   unfold newsOf at h
   rw [List.getElem?_map] at h
   have hk := get_lt (x := u) (l := (List.range (es.length * s)).map fun k => cs (k / s) (k % s)) (i := k) (by rw [List.getElem?_map]; exact h)
   rw [List.length_map, List.length_range] at hk
   rw [List.getElem?_range hk] at h
   cases h
   exact ⟨hk, rfl⟩
  have hlen' : len = es.length := hl.symm
  subst hlen'
  refine (hc ⟨b, off, none⟩ cap (newsOf s es.length cs) w (by simp [newsOf]) (fun k u h => ?_) (fun u h => ?_)).mono ?_
  ·obtain ⟨hk, rfl⟩ := hnews k u h
   obtain ⟨e, x, e1, e2, rfl⟩ := hcell k hk
   have := hm _ e _ x e1 e2
   rw [show off + k / s' * s' + k % s' = off + k by rw [Nat.add_assoc, Nat.mul_comm, Nat.div_add_mod]] at this
   rw [Addr.add_lit]
   exact this
  ·obtain ⟨k, hk0⟩ := List.getElem?_of_mem h
   obtain ⟨hk, rfl⟩ := hnews k u hk0
   obtain ⟨e, x, e1, e2, rfl⟩ := hcell k hk
   exact nagg_oneCell (hr _ e _ x e1 e2).not_agg
  ·rintro e w' ⟨v', rfl, ⟨_, hown⟩, hB⟩
   refine ⟨_, rfl, ?_⟩
   refine endW w' v' hB ?_
   rcases hown with ⟨h, h0⟩ | ⟨g1, cap1, cur, h1, h2, h3, h4, h5, h6, h7⟩
   ·exact .inl ⟨h, List.length_eq_zero_iff.1 h0⟩
   ·refine .inr ⟨g1, cap1, cur, h1, h2, h3, ?_⟩
    rw [h1]
    refine ow_row (w0 := w) (P0 := frz g w) h3 rfl h4 h5 h6 h7 rfl (fun s0 h => by cases h; rfl) (fun i e j x e1 e2 => ?_) hs'
    have hj : j < s := by have := get_lt e2; rw [hs' i e e1] at this; exact this
    have hi := get_lt e1
    have hk : i * s + j < es.length * s := by
     have : (i + 1) * s ≤ es.length * s := Nat.mul_le_mul_right s hi
     rw [Nat.succ_mul] at this; omega
    have d1 : (i * s + j) / s = i := by rw [Nat.mul_comm, Nat.mul_add_div hsp, Nat.div_eq_of_lt hj, Nat.add_zero]
    have d2 : (i * s + j) % s = j := by rw [Nat.mul_comm, Nat.mul_add_mod, Nat.mod_eq_of_lt hj]
    refine ⟨cs i j, ?_, hr i e j x e1 e2, ?_⟩
    ·unfold newsOf
     rw [List.getElem?_map, List.getElem?_range hk]
     simp only [Option.map_some, d1, d2]
    ·have := (hes e (List.mem_of_getElem? e1)).2
     exact List.all_eq_true.1 this x (List.mem_of_getElem? e2)

end Go.Own

/- Walk: an element's place in a slice that a slot holds. -/
namespace Go.Own
open Go.RowKit
section
variable {P : Program} {τ : TypeId → Option TI} {An : FuncId → FA} {F : FA} {ds : List (Option Nat)} {r : List Oper} {x : D} {K : D → Prop} {ty : TypeId} {pos : String} {after : Array Edge} {gd : Option (Nat × Bool)} {d : Nat}
end
section
variable {P : Program} {τ : TypeId → Option TI} {An : FuncId → FA} {F : FA} {ds : List (Option Nat)} {r : List Oper} {k : Kt} {S : SS V} {O : SS (List T)} {ty : TypeId} {pos : String} {after : Array Edge} {gd : Option (Nat × Bool)} {d : Nat}
end
end Go.Own
