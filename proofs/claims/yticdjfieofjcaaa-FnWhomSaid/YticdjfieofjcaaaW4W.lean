/- Each function on plain data, and its walk. No conditions. -/
import Derived.Test.YticdjfieofjcaaaW4A
set_option linter.unusedVariables false
set_option linter.unusedSimpArgs false
set_option linter.unnecessarySimpa false
namespace Go.Own
open Go Go.Proofs
def rI_i64 (a : Int) : List T := [.int .i64 a]
def rI_u8 (a : Int) : List T := [.int .u8 a]
def p56 (n : Nat) (t0_0 : Int) (t1_0 : Int) (t2_0 : Int) : Option (Bool) :=
  (bif decide (t1_0 ≤ t0_0) then some (decide (t0_0 ≤ t2_0)) else some false).bind fun v6_1 => some v6_1
theorem big56 {n : Nat} {t0_0 : Int} {t1_0 : Int} {t2_0 : Int} {r : Bool} (h : p56 n t0_0 t1_0 t2_0 = some r) : Big Try.prog τ An (.fn 56 [.one (.c (.int .i64 t0_0)), .one (.c (.int .i64 t1_0)), .one (.c (.int .i64 t2_0))] [] (.one (.c (.bool r))) none [] none) := by
  unfold p56 at h
  refine Big.of Try.func56 rfl rfl rfl rfl ?_
  have s0 : (DA [.one (.c (.int .i64 t0_0)), .one (.c (.int .i64 t1_0)), .one (.c (.int .i64 t2_0))] []).sl 0 = .one (.c (.int .i64 t0_0)) := rfl
  have s1 : (DA [.one (.c (.int .i64 t0_0)), .one (.c (.int .i64 t1_0)), .one (.c (.int .i64 t2_0))] []).sl 1 = .one (.c (.int .i64 t1_0)) := rfl
  have s2 : (DA [.one (.c (.int .i64 t0_0)), .one (.c (.int .i64 t1_0)), .one (.c (.int .i64 t2_0))] []).sl 2 = .one (.c (.int .i64 t2_0)) := rfl
  generalize DA [.one (.c (.int .i64 t0_0)), .one (.c (.int .i64 t1_0)), .one (.c (.int .i64 t2_0))] [] = x at s0 s1 s2 ⊢
  refine c_reg (fun x => x.sl 0 = .one (.c (.int .i64 t0_0)) ∧ x.sl 1 = .one (.c (.int .i64 t1_0)) ∧ x.sl 2 = .one (.c (.int .i64 t2_0))) ?_ ?_
  · rw [← put_self s0, ← put_self s1, ← put_self s2]
    refine asg rfl (by conv => lhs; whnf) rfl ?_
    refine step_nil ?_
    exact ⟨rfl, rfl, rfl⟩
  clear s0 s1 s2
  intro x hM
  obtain ⟨s0, s1, s2⟩ := hM
  obtain ⟨v6_1, hr, h⟩ := bind_some h
  refine c_reg (fun x => x.sl 6 = .one (.c (.bool v6_1))) ?_ ?_
  · clear h
    rw [← put_self s0, ← put_self s1, ← put_self s2]
    refine mv rfl (by conv => lhs; whnf) rfl ?_
    refine mv rfl (by conv => lhs; whnf) rfl ?_
    refine rd (.bool (decide (t1_0 ≤ t0_0))) rfl rfl rfl rfl rfl ?_
    refine mv rfl (by conv => lhs; whnf) rfl ?_
    refine bif_cases hr (fun q2 hr => ?_) (fun q2 hr => ?_)
    · refine mv (g_ofc rfl (by conv => lhs; whnf) q2 rfl) (by conv => lhs; whnf) rfl ?_
      refine mv (g_ofc rfl (by conv => lhs; whnf) q2 rfl) (by conv => lhs; whnf) rfl ?_
      refine rd (.bool (decide (t0_0 ≤ t2_0))) (g_ofc rfl (by conv => lhs; whnf) q2 rfl) rfl rfl rfl rfl ?_
      refine pkc rfl (by conv => lhs; whnf) q2 (by conv => lhs; whnf) rfl ?_
      refine asg rfl (by conv => lhs; whnf) rfl ?_
      refine step_nil ?_
      cases hr
      exact rfl
    · refine sk (g_ofc rfl (by conv => lhs; whnf) q2 rfl) ?_
      refine sk (g_ofc rfl (by conv => lhs; whnf) q2 rfl) ?_
      refine sk (g_ofc rfl (by conv => lhs; whnf) q2 rfl) ?_
      refine pkc rfl (by conv => lhs; whnf) q2 (by conv => lhs; whnf) rfl ?_
      refine asg rfl (by conv => lhs; whnf) rfl ?_
      refine step_nil ?_
      cases hr
      exact rfl
  clear hr
  clear s0 s1 s2
  intro x s6
  refine c_ret ?_
  cases h
  show _ ∧ _
  rw [← put_self s6]
  exact ⟨.inr rfl, _, rfl, rfl, rfl, rfl⟩
def p13_b1 (n : Nat) (t0_0 : Int) (t1_0 : Int) (t2_0 : Int) : ((List Int) × Int) → Option (((List Int) × Int) ⊕ (((List Int) × Int × Bool)))
  | (v7_7, v8_8) => bif decide (v8_8 < t1_0) then (((bif decide (t0_0 = (2 : Int)) then some true else bif decide (t0_0 = (3 : Int)) then bif decide (t2_0 ≤ v8_8) then some true else bif decide (t0_0 = (1 : Int)) then some (decide (v8_8 = t2_0)) else some false else bif decide (t0_0 = (1 : Int)) then some (decide (v8_8 = t2_0)) else some false).bind fun v45_14 => bif v45_14 then (app2 8 v7_7 ([v8_8] : List Int)).bind fun v49_21 => some v49_21 else some v7_7 : Option (((List Int))))).bind fun v7_13 => some (.inl (v7_13, (IntKind.wrap .i64 (v8_8 + (1 : Int))))) else some (.inr (v7_7, v8_8, (decide (v8_8 < t1_0))))
def p13 (n : Nat) (t0_0 : Int) (t1_0 : Int) (t2_0 : Int) : Option ((List Int)) :=
  ((p56 n t1_0 (1 : Int) (100 : Int)).bind fun c11_3 => bif !c11_3 then some true else (p56 n t2_0 (0 : Int) (IntKind.wrap .i64 (t1_0 - (1 : Int)))).bind fun c17_5 => some (!c17_5)).bind fun v19_2 => bif v19_2 then some ([] : List Int) else (loopN (p13_b1 n t0_0 t1_0 t2_0) n (([] : List Int), (0 : Int))).bind fun (v7_9, v8_10, v23_11) => some v7_9
theorem big13 {n : Nat} {t0_0 : Int} {t1_0 : Int} {t2_0 : Int} {r : (List Int)} (h : p13 n t0_0 t1_0 t2_0 = some r) : Big Try.prog τ An (.fn 13 [.one (.c (.int .i64 t0_0)), .one (.c (.int .i64 t1_0)), .one (.c (.int .i64 t2_0))] [] (.one (.c (.sl (r.map rI_i64)))) none [] none) := by
  unfold p13 at h
  refine Big.of Try.func13 rfl rfl rfl rfl ?_
  have s0 : (DA [.one (.c (.int .i64 t0_0)), .one (.c (.int .i64 t1_0)), .one (.c (.int .i64 t2_0))] []).sl 0 = .one (.c (.int .i64 t0_0)) := rfl
  have s1 : (DA [.one (.c (.int .i64 t0_0)), .one (.c (.int .i64 t1_0)), .one (.c (.int .i64 t2_0))] []).sl 1 = .one (.c (.int .i64 t1_0)) := rfl
  have s2 : (DA [.one (.c (.int .i64 t0_0)), .one (.c (.int .i64 t1_0)), .one (.c (.int .i64 t2_0))] []).sl 2 = .one (.c (.int .i64 t2_0)) := rfl
  generalize DA [.one (.c (.int .i64 t0_0)), .one (.c (.int .i64 t1_0)), .one (.c (.int .i64 t2_0))] [] = x at s0 s1 s2 ⊢
  refine c_reg (fun x => x.sl 0 = .one (.c (.int .i64 t0_0)) ∧ x.sl 1 = .one (.c (.int .i64 t1_0)) ∧ x.sl 2 = .one (.c (.int .i64 t2_0))) ?_ ?_
  · rw [← put_self s0, ← put_self s1, ← put_self s2]
    refine asg rfl (by conv => lhs; whnf) rfl ?_
    refine step_nil ?_
    exact ⟨rfl, rfl, rfl⟩
  clear s0 s1 s2
  intro x hM
  obtain ⟨s0, s1, s2⟩ := hM
  refine c_reg (fun x => x.sl 0 = .one (.c (.int .i64 t0_0)) ∧ x.sl 1 = .one (.c (.int .i64 t1_0)) ∧ x.sl 2 = .one (.c (.int .i64 t2_0)) ∧ x.sl 7 = .one (.c (.sl ([].map rI_i64)))) ?_ ?_
  · rw [← put_self s0, ← put_self s1, ← put_self s2]
    refine lit (L := ([] : List Int)) (f := rI_i64) rfl rfl rfl rfl rfl rfl rfl ?_
    refine asg rfl (by conv => lhs; whnf) rfl ?_
    refine step_nil ?_
    exact ⟨rfl, rfl, rfl, rfl⟩
  clear s0 s1 s2
  intro x hM
  obtain ⟨s0, s1, s2, s7⟩ := hM
  refine c_seq ?_
  obtain ⟨v19_2, hr, h⟩ := bind_some h
  refine c_reg (fun x => x.sl 0 = .one (.c (.int .i64 t0_0)) ∧ x.sl 1 = .one (.c (.int .i64 t1_0)) ∧ x.sl 2 = .one (.c (.int .i64 t2_0)) ∧ x.sl 7 = .one (.c (.sl ([].map rI_i64))) ∧ x.sl 19 = .one (.c (.bool v19_2))) ?_ ?_
  · clear h
    rw [← put_self s0, ← put_self s1, ← put_self s2, ← put_self s7]
    refine mv rfl (by conv => lhs; whnf) rfl ?_
    obtain ⟨c11_3, kc11_3, hr⟩ := bind_some hr
    refine cl0 (v' := .one (.c (.bool c11_3))) (big56 kc11_3) rfl rfl rfl rfl rfl rfl rfl rfl rfl ?_
    refine rd (.bool (!c11_3)) rfl rfl rfl rfl rfl ?_
    refine mv rfl (by conv => lhs; whnf) rfl ?_
    refine bif_cases hr (fun q4 hr => ?_) (fun q4 hr => ?_)
    · refine sk (g_ofc rfl (by conv => lhs; whnf) q4 rfl) ?_
      refine sk (g_ofc rfl (by conv => lhs; whnf) q4 rfl) ?_
      refine sk (g_ofc rfl (by conv => lhs; whnf) q4 rfl) ?_
      refine sk (g_ofc rfl (by conv => lhs; whnf) q4 rfl) ?_
      refine sk (g_ofc rfl (by conv => lhs; whnf) q4 rfl) ?_
      refine pkc rfl (by conv => lhs; whnf) q4 (by conv => lhs; whnf) rfl ?_
      refine step_nil ?_
      cases hr
      exact ⟨rfl, rfl, rfl, rfl, rfl⟩
    · refine mv (g_ofc rfl (by conv => lhs; whnf) q4 rfl) (by conv => lhs; whnf) rfl ?_
      refine mv (g_ofc rfl (by conv => lhs; whnf) q4 rfl) (by conv => lhs; whnf) rfl ?_
      refine rd (.int .i64 (IntKind.wrap .i64 (t1_0 - (1 : Int)))) (g_ofc rfl (by conv => lhs; whnf) q4 rfl) rfl rfl rfl rfl ?_
      obtain ⟨c17_5, kc17_5, hr⟩ := bind_some hr
      refine cl0 (v' := .one (.c (.bool c17_5))) (big56 kc17_5) (g_ofc rfl (by conv => lhs; whnf) q4 rfl) rfl rfl rfl rfl rfl rfl rfl rfl ?_
      refine rd (.bool (!c17_5)) (g_ofc rfl (by conv => lhs; whnf) q4 rfl) rfl rfl rfl rfl ?_
      refine pkc rfl (by conv => lhs; whnf) q4 (by conv => lhs; whnf) rfl ?_
      refine step_nil ?_
      cases hr
      exact ⟨rfl, rfl, rfl, rfl, rfl⟩
  clear hr
  clear s0 s1 s2 s7
  intro x hM
  obtain ⟨s0, s1, s2, s7, s19⟩ := hM
  refine bif_cases h (fun q6 h => ?_) (fun q6 h => ?_)
  · refine c_ct (by rw [← q6]; exact s19) ?_
    refine c_reg (fun x => x.sl 6 = .one (.c (.sl ([].map rI_i64)))) ?_ ?_
    · rw [← put_self s0, ← put_self s1, ← put_self s2, ← put_self s7, ← put_self s19]
      refine mv rfl (by conv => lhs; whnf) rfl ?_
      refine asg rfl (by conv => lhs; whnf) rfl ?_
      refine step_nil ?_
      exact rfl
    clear s0 s1 s2 s7 s19
    intro x s6
    refine c_ret ?_
    cases h
    show _ ∧ _
    rw [← put_self s6]
    exact ⟨.inr rfl, _, rfl, rfl, rfl, rfl⟩
  · refine c_cf (by rw [← q6]; exact s19) ?_
    refine c_skip ?_
    show vcC _ _ _ _ _ _ _
    refine c_seq ?_
    refine c_reg (fun x => x.sl 0 = .one (.c (.int .i64 t0_0)) ∧ x.sl 1 = .one (.c (.int .i64 t1_0)) ∧ x.sl 2 = .one (.c (.int .i64 t2_0)) ∧ x.sl 7 = .one (.c (.sl ([].map rI_i64))) ∧ x.sl 8 = .one (.c (.int .i64 0))) ?_ ?_
    · rw [← put_self s0, ← put_self s1, ← put_self s2, ← put_self s7, ← put_self s19]
      refine asg rfl (by conv => lhs; whnf) rfl ?_
      refine step_nil ?_
      exact ⟨rfl, rfl, rfl, rfl, rfl⟩
    clear s0 s1 s2 s7 s19
    intro x hM
    obtain ⟨s0, s1, s2, s7, s8⟩ := hM
    obtain ⟨q23, hq, h⟩ := bind_some h
    refine c_block ?_
    refine Wd.loopN (fun s x => match s with | (v7_7, v8_8) => x.sl 0 = .one (.c (.int .i64 t0_0)) ∧ x.sl 1 = .one (.c (.int .i64 t1_0)) ∧ x.sl 2 = .one (.c (.int .i64 t2_0)) ∧ x.sl 7 = .one (.c (.sl (v7_7.map rI_i64))) ∧ x.sl 8 = .one (.c (.int .i64 v8_8))) (fun q e x => match q with | (v7_9, v8_10, v23_11) => e = .e 0 ∧ x.sl 0 = .one (.c (.int .i64 t0_0)) ∧ x.sl 1 = .one (.c (.int .i64 t1_0)) ∧ x.sl 2 = .one (.c (.int .i64 t2_0)) ∧ x.sl 7 = .one (.c (.sl (v7_9.map rI_i64))) ∧ x.sl 8 = .one (.c (.int .i64 v8_10)) ∧ x.sl 23 = .one (.c (.bool v23_11))) ?_ hq (⟨s0, s1, s2, s7, s8⟩) ?_
    · clear h hq
      clear s0 s1 s2 s7 s8
      intro st o x hR h
      obtain ⟨v7_7, v8_8⟩ := st
      obtain ⟨s0, s1, s2, s7, s8⟩ := hR
      unfold p13_b1 at h
      refine c_seq ?_
      refine c_reg (fun x => x.sl 0 = .one (.c (.int .i64 t0_0)) ∧ x.sl 1 = .one (.c (.int .i64 t1_0)) ∧ x.sl 2 = .one (.c (.int .i64 t2_0)) ∧ x.sl 7 = .one (.c (.sl (v7_7.map rI_i64))) ∧ x.sl 8 = .one (.c (.int .i64 v8_8)) ∧ x.sl 23 = .one (.c (.bool (decide (v8_8 < t1_0))))) ?_ ?_
      · rw [← put_self s0, ← put_self s1, ← put_self s2, ← put_self s7, ← put_self s8]
        refine mv rfl (by conv => lhs; whnf) rfl ?_
        refine mv rfl (by conv => lhs; whnf) rfl ?_
        refine rd (.bool (decide (v8_8 < t1_0))) rfl rfl rfl rfl rfl ?_
        refine step_nil ?_
        exact ⟨rfl, rfl, rfl, rfl, rfl, rfl⟩
      clear s0 s1 s2 s7 s8
      intro x hM
      obtain ⟨s0, s1, s2, s7, s8, s23⟩ := hM
      refine bif_cases h (fun q12 h => ?_) (fun q12 h => ?_)
      · refine c_ct (by rw [← q12]; exact s23) ?_
        refine c_skip ?_
        show vcC _ _ _ _ _ _ _
        obtain ⟨v7_13, hq, h⟩ := bind_some h
        refine c_mid (fun e x => e = .n ∧ x.sl 0 = .one (.c (.int .i64 t0_0)) ∧ x.sl 1 = .one (.c (.int .i64 t1_0)) ∧ x.sl 2 = .one (.c (.int .i64 t2_0)) ∧ x.sl 7 = .one (.c (.sl (v7_13.map rI_i64))) ∧ x.sl 8 = .one (.c (.int .i64 v8_8))) ?_ ?_
        · clear h
          have h := hq
          clear hq
          refine c_block ?_
          obtain ⟨v45_14, hr, h⟩ := bind_some h
          refine c_reg (fun x => x.sl 0 = .one (.c (.int .i64 t0_0)) ∧ x.sl 1 = .one (.c (.int .i64 t1_0)) ∧ x.sl 2 = .one (.c (.int .i64 t2_0)) ∧ x.sl 7 = .one (.c (.sl (v7_7.map rI_i64))) ∧ x.sl 8 = .one (.c (.int .i64 v8_8)) ∧ x.sl 45 = .one (.c (.bool v45_14))) ?_ ?_
          · clear h
            rw [← put_self s0, ← put_self s1, ← put_self s2, ← put_self s7, ← put_self s8, ← put_self s23]
            refine mv rfl (by conv => lhs; whnf) rfl ?_
            refine rd (.bool (decide (t0_0 = (2 : Int)))) rfl rfl rfl rfl rfl ?_
            refine mv rfl (by conv => lhs; whnf) rfl ?_
            refine bif_cases hr (fun q15 hr => ?_) (fun q15 hr => ?_)
            · refine sk (g_ofc rfl (by conv => lhs; whnf) q15 rfl) ?_
              refine sk (g_ofc rfl (by conv => lhs; whnf) q15 rfl) ?_
              refine sk (g_ofc rfl (by conv => lhs; whnf) q15 rfl) ?_
              refine sk (g_und rfl rfl) ?_
              refine sk (g_und rfl rfl) ?_
              refine sk (g_und rfl rfl) ?_
              refine sk (g_ofc rfl (by conv => lhs; whnf) q15 rfl) ?_
              refine pkc rfl (by conv => lhs; whnf) q15 (by conv => lhs; whnf) rfl ?_
              refine mv rfl (by conv => lhs; whnf) rfl ?_
              refine sk (g_ofc rfl (by conv => lhs; whnf) rfl rfl) ?_
              refine sk (g_ofc rfl (by conv => lhs; whnf) rfl rfl) ?_
              refine sk (g_ofc rfl (by conv => lhs; whnf) rfl rfl) ?_
              refine sk (g_und rfl rfl) ?_
              refine sk (g_und rfl rfl) ?_
              refine sk (g_und rfl rfl) ?_
              refine sk (g_ofc rfl (by conv => lhs; whnf) rfl rfl) ?_
              refine pkc rfl (by conv => lhs; whnf) rfl (by conv => lhs; whnf) rfl ?_
              refine step_nil ?_
              cases hr
              exact ⟨rfl, rfl, rfl, rfl, rfl, rfl⟩
            · refine mv (g_ofc rfl (by conv => lhs; whnf) q15 rfl) (by conv => lhs; whnf) rfl ?_
              refine rd (.bool (decide (t0_0 = (3 : Int)))) (g_ofc rfl (by conv => lhs; whnf) q15 rfl) rfl rfl rfl rfl ?_
              refine mv (g_ofc rfl (by conv => lhs; whnf) q15 rfl) (by conv => lhs; whnf) rfl ?_
              refine bif_cases hr (fun q16 hr => ?_) (fun q16 hr => ?_)
              · refine mv (g_ofc rfl (by conv => lhs; whnf) q16 rfl) (by conv => lhs; whnf) rfl ?_
                refine mv (g_ofc rfl (by conv => lhs; whnf) q16 rfl) (by conv => lhs; whnf) rfl ?_
                refine rd (.bool (decide (t2_0 ≤ v8_8))) (g_ofc rfl (by conv => lhs; whnf) q16 rfl) rfl rfl rfl rfl ?_
                refine pkc (g_ofc rfl (by conv => lhs; whnf) q15 rfl) (by conv => lhs; whnf) q16 (by conv => lhs; whnf) rfl ?_
                refine pkc rfl (by conv => lhs; whnf) q15 (by conv => lhs; whnf) rfl ?_
                refine mv rfl (by conv => lhs; whnf) rfl ?_
                refine bif_cases hr (fun q17 hr => ?_) (fun q17 hr => ?_)
                · refine sk (g_ofc rfl (by conv => lhs; whnf) q17 rfl) ?_
                  refine sk (g_ofc rfl (by conv => lhs; whnf) q17 rfl) ?_
                  refine sk (g_ofc rfl (by conv => lhs; whnf) q17 rfl) ?_
                  refine sk (g_und rfl rfl) ?_
                  refine sk (g_und rfl rfl) ?_
                  refine sk (g_und rfl rfl) ?_
                  refine sk (g_ofc rfl (by conv => lhs; whnf) q17 rfl) ?_
                  refine pkc rfl (by conv => lhs; whnf) q17 (by conv => lhs; whnf) rfl ?_
                  refine step_nil ?_
                  cases hr
                  exact ⟨rfl, rfl, rfl, rfl, rfl, rfl⟩
                · refine mv (g_ofc rfl (by conv => lhs; whnf) q17 rfl) (by conv => lhs; whnf) rfl ?_
                  refine rd (.bool (decide (t0_0 = (1 : Int)))) (g_ofc rfl (by conv => lhs; whnf) q17 rfl) rfl rfl rfl rfl ?_
                  refine mv (g_ofc rfl (by conv => lhs; whnf) q17 rfl) (by conv => lhs; whnf) rfl ?_
                  refine bif_cases hr (fun q18 hr => ?_) (fun q18 hr => ?_)
                  · refine mv (g_ofc rfl (by conv => lhs; whnf) q18 rfl) (by conv => lhs; whnf) rfl ?_
                    refine mv (g_ofc rfl (by conv => lhs; whnf) q18 rfl) (by conv => lhs; whnf) rfl ?_
                    refine rd (.bool (decide (v8_8 = t2_0))) (g_ofc rfl (by conv => lhs; whnf) q18 rfl) rfl rfl rfl rfl ?_
                    refine pkc (g_ofc rfl (by conv => lhs; whnf) q17 rfl) (by conv => lhs; whnf) q18 (by conv => lhs; whnf) rfl ?_
                    refine pkc rfl (by conv => lhs; whnf) q17 (by conv => lhs; whnf) rfl ?_
                    refine step_nil ?_
                    cases hr
                    exact ⟨rfl, rfl, rfl, rfl, rfl, rfl⟩
                  · refine sk (g_ofc rfl (by conv => lhs; whnf) q18 rfl) ?_
                    refine sk (g_ofc rfl (by conv => lhs; whnf) q18 rfl) ?_
                    refine sk (g_ofc rfl (by conv => lhs; whnf) q18 rfl) ?_
                    refine pkc (g_ofc rfl (by conv => lhs; whnf) q17 rfl) (by conv => lhs; whnf) q18 (by conv => lhs; whnf) rfl ?_
                    refine pkc rfl (by conv => lhs; whnf) q17 (by conv => lhs; whnf) rfl ?_
                    refine step_nil ?_
                    cases hr
                    exact ⟨rfl, rfl, rfl, rfl, rfl, rfl⟩
              · refine sk (g_ofc rfl (by conv => lhs; whnf) q16 rfl) ?_
                refine sk (g_ofc rfl (by conv => lhs; whnf) q16 rfl) ?_
                refine sk (g_ofc rfl (by conv => lhs; whnf) q16 rfl) ?_
                refine pkc (g_ofc rfl (by conv => lhs; whnf) q15 rfl) (by conv => lhs; whnf) q16 (by conv => lhs; whnf) rfl ?_
                refine pkc rfl (by conv => lhs; whnf) q15 (by conv => lhs; whnf) rfl ?_
                refine mv rfl (by conv => lhs; whnf) rfl ?_
                refine mv (g_ofc rfl (by conv => lhs; whnf) rfl rfl) (by conv => lhs; whnf) rfl ?_
                refine rd (.bool (decide (t0_0 = (1 : Int)))) (g_ofc rfl (by conv => lhs; whnf) rfl rfl) rfl rfl rfl rfl ?_
                refine mv (g_ofc rfl (by conv => lhs; whnf) rfl rfl) (by conv => lhs; whnf) rfl ?_
                refine bif_cases hr (fun q19 hr => ?_) (fun q19 hr => ?_)
                · refine mv (g_ofc rfl (by conv => lhs; whnf) q19 rfl) (by conv => lhs; whnf) rfl ?_
                  refine mv (g_ofc rfl (by conv => lhs; whnf) q19 rfl) (by conv => lhs; whnf) rfl ?_
                  refine rd (.bool (decide (v8_8 = t2_0))) (g_ofc rfl (by conv => lhs; whnf) q19 rfl) rfl rfl rfl rfl ?_
                  refine pkc (g_ofc rfl (by conv => lhs; whnf) rfl rfl) (by conv => lhs; whnf) q19 (by conv => lhs; whnf) rfl ?_
                  refine pkc rfl (by conv => lhs; whnf) rfl (by conv => lhs; whnf) rfl ?_
                  refine step_nil ?_
                  cases hr
                  exact ⟨rfl, rfl, rfl, rfl, rfl, rfl⟩
                · refine sk (g_ofc rfl (by conv => lhs; whnf) q19 rfl) ?_
                  refine sk (g_ofc rfl (by conv => lhs; whnf) q19 rfl) ?_
                  refine sk (g_ofc rfl (by conv => lhs; whnf) q19 rfl) ?_
                  refine pkc (g_ofc rfl (by conv => lhs; whnf) rfl rfl) (by conv => lhs; whnf) q19 (by conv => lhs; whnf) rfl ?_
                  refine pkc rfl (by conv => lhs; whnf) rfl (by conv => lhs; whnf) rfl ?_
                  refine step_nil ?_
                  cases hr
                  exact ⟨rfl, rfl, rfl, rfl, rfl, rfl⟩
          clear hr
          clear s0 s1 s2 s7 s8 s23
          intro x hM
          obtain ⟨s0, s1, s2, s7, s8, s45⟩ := hM
          refine bif_cases h (fun q20 h => ?_) (fun q20 h => ?_)
          · refine c_ct (by rw [← q20]; exact s45) ?_
            obtain ⟨v49_21, kv49_21, h⟩ := bind_some h
            refine c_regl (fun x => x.sl 0 = .one (.c (.int .i64 t0_0)) ∧ x.sl 1 = .one (.c (.int .i64 t1_0)) ∧ x.sl 2 = .one (.c (.int .i64 t2_0)) ∧ x.sl 7 = .one (.c (.sl (v49_21.map rI_i64))) ∧ x.sl 8 = .one (.c (.int .i64 v8_8))) ?_ ?_
            · rw [← put_self s0, ← put_self s1, ← put_self s2, ← put_self s7, ← put_self s8, ← put_self s45]
              refine mv rfl (by conv => lhs; whnf) rfl ?_
              refine mv rfl (by conv => lhs; whnf) rfl ?_
              refine lit (L := ([v8_8] : List Int)) (f := rI_i64) rfl rfl rfl rfl rfl rfl rfl ?_
              refine apd (f := rI_i64) kv49_21 rfl rfl rfl rfl (by conv => lhs; whnf) rfl rfl rfl (fun _ => rfl) (fun _ => rfl) rfl ?_
              refine asg rfl (by conv => lhs; whnf) rfl ?_
              refine step_nil ?_
              exact ⟨rfl, rfl, rfl, rfl, rfl⟩
            clear s0 s1 s2 s7 s8 s45
            intro x hM
            obtain ⟨s0, s1, s2, s7, s8⟩ := hM
            cases h
            show _ ∧ _
            exact ⟨rfl, s0, s1, s2, s7, s8⟩
          · refine c_cf (by rw [← q20]; exact s45) ?_
            refine c_skip ?_
            cases h
            show _ ∧ _
            exact ⟨rfl, s0, s1, s2, s7, s8⟩
        clear hq
        clear s0 s1 s2 s7 s8 s23
        intro e x hM
        obtain ⟨rfl, s0, s1, s2, s7, s8⟩ := hM
        show vcC _ _ _ _ _ _ _
        refine c_regl (fun x => x.sl 0 = .one (.c (.int .i64 t0_0)) ∧ x.sl 1 = .one (.c (.int .i64 t1_0)) ∧ x.sl 2 = .one (.c (.int .i64 t2_0)) ∧ x.sl 7 = .one (.c (.sl (v7_13.map rI_i64))) ∧ x.sl 8 = .one (.c (.int .i64 (IntKind.wrap .i64 (v8_8 + (1 : Int)))))) ?_ ?_
        · rw [← put_self s0, ← put_self s1, ← put_self s2, ← put_self s7, ← put_self s8]
          refine mv rfl (by conv => lhs; whnf) rfl ?_
          refine rd (.int .i64 (IntKind.wrap .i64 (v8_8 + (1 : Int)))) rfl rfl rfl rfl rfl ?_
          refine asg rfl (by conv => lhs; whnf) rfl ?_
          refine step_nil ?_
          exact ⟨rfl, rfl, rfl, rfl, rfl⟩
        clear s0 s1 s2 s7 s8
        intro x hM
        obtain ⟨s0, s1, s2, s7, s8⟩ := hM
        cases h
        show _ ∧ _
        exact ⟨rfl, s0, s1, s2, s7, s8⟩
      · refine c_cf (by rw [← q12]; exact s23) ?_
        refine c_exit ?_
        cases h
        show _ ∧ _
        exact ⟨nofun, rfl, s0, s1, s2, s7, s8, s23⟩
    clear hq
    clear s0 s1 s2 s7 s8
    intro e x hM
    obtain ⟨v7_9, v8_10, v23_11⟩ := q23
    obtain ⟨rfl, s0, s1, s2, s7, s8, s23⟩ := hM
    show vcC _ _ _ _ _ _ _
    refine c_reg (fun x => x.sl 6 = .one (.c (.sl (v7_9.map rI_i64)))) ?_ ?_
    · rw [← put_self s0, ← put_self s1, ← put_self s2, ← put_self s7, ← put_self s8, ← put_self s23]
      refine mv rfl (by conv => lhs; whnf) rfl ?_
      refine asg rfl (by conv => lhs; whnf) rfl ?_
      refine step_nil ?_
      exact rfl
    clear s0 s1 s2 s7 s8 s23
    intro x s6
    refine c_ret ?_
    cases h
    show _ ∧ _
    rw [← put_self s6]
    exact ⟨.inr rfl, _, rfl, rfl, rfl, rfl⟩
def p57 (n : Nat) (t0_0 : Int) (t1_0 : Int) (t2_0 : Int) : Option (Bool) :=
  (bif decide (t1_0 ≤ t0_0) then some (decide (t0_0 ≤ t2_0)) else some false).bind fun v6_1 => some v6_1
theorem big57 {n : Nat} {t0_0 : Int} {t1_0 : Int} {t2_0 : Int} {r : Bool} (h : p57 n t0_0 t1_0 t2_0 = some r) : Big Try.prog τ An (.fn 57 [.one (.c (.int .i64 t0_0)), .one (.c (.int .i64 t1_0)), .one (.c (.int .i64 t2_0))] [] (.one (.c (.bool r))) none [] none) := by
  unfold p57 at h
  refine Big.of Try.func57 rfl rfl rfl rfl ?_
  have s0 : (DA [.one (.c (.int .i64 t0_0)), .one (.c (.int .i64 t1_0)), .one (.c (.int .i64 t2_0))] []).sl 0 = .one (.c (.int .i64 t0_0)) := rfl
  have s1 : (DA [.one (.c (.int .i64 t0_0)), .one (.c (.int .i64 t1_0)), .one (.c (.int .i64 t2_0))] []).sl 1 = .one (.c (.int .i64 t1_0)) := rfl
  have s2 : (DA [.one (.c (.int .i64 t0_0)), .one (.c (.int .i64 t1_0)), .one (.c (.int .i64 t2_0))] []).sl 2 = .one (.c (.int .i64 t2_0)) := rfl
  generalize DA [.one (.c (.int .i64 t0_0)), .one (.c (.int .i64 t1_0)), .one (.c (.int .i64 t2_0))] [] = x at s0 s1 s2 ⊢
  refine c_reg (fun x => x.sl 0 = .one (.c (.int .i64 t0_0)) ∧ x.sl 1 = .one (.c (.int .i64 t1_0)) ∧ x.sl 2 = .one (.c (.int .i64 t2_0))) ?_ ?_
  · rw [← put_self s0, ← put_self s1, ← put_self s2]
    refine asg rfl (by conv => lhs; whnf) rfl ?_
    refine step_nil ?_
    exact ⟨rfl, rfl, rfl⟩
  clear s0 s1 s2
  intro x hM
  obtain ⟨s0, s1, s2⟩ := hM
  obtain ⟨v6_1, hr, h⟩ := bind_some h
  refine c_reg (fun x => x.sl 6 = .one (.c (.bool v6_1))) ?_ ?_
  · clear h
    rw [← put_self s0, ← put_self s1, ← put_self s2]
    refine mv rfl (by conv => lhs; whnf) rfl ?_
    refine mv rfl (by conv => lhs; whnf) rfl ?_
    refine rd (.bool (decide (t1_0 ≤ t0_0))) rfl rfl rfl rfl rfl ?_
    refine mv rfl (by conv => lhs; whnf) rfl ?_
    refine bif_cases hr (fun q2 hr => ?_) (fun q2 hr => ?_)
    · refine mv (g_ofc rfl (by conv => lhs; whnf) q2 rfl) (by conv => lhs; whnf) rfl ?_
      refine mv (g_ofc rfl (by conv => lhs; whnf) q2 rfl) (by conv => lhs; whnf) rfl ?_
      refine rd (.bool (decide (t0_0 ≤ t2_0))) (g_ofc rfl (by conv => lhs; whnf) q2 rfl) rfl rfl rfl rfl ?_
      refine pkc rfl (by conv => lhs; whnf) q2 (by conv => lhs; whnf) rfl ?_
      refine asg rfl (by conv => lhs; whnf) rfl ?_
      refine step_nil ?_
      cases hr
      exact rfl
    · refine sk (g_ofc rfl (by conv => lhs; whnf) q2 rfl) ?_
      refine sk (g_ofc rfl (by conv => lhs; whnf) q2 rfl) ?_
      refine sk (g_ofc rfl (by conv => lhs; whnf) q2 rfl) ?_
      refine pkc rfl (by conv => lhs; whnf) q2 (by conv => lhs; whnf) rfl ?_
      refine asg rfl (by conv => lhs; whnf) rfl ?_
      refine step_nil ?_
      cases hr
      exact rfl
  clear hr
  clear s0 s1 s2
  intro x s6
  refine c_ret ?_
  cases h
  show _ ∧ _
  rw [← put_self s6]
  exact ⟨.inr rfl, _, rfl, rfl, rfl, rfl⟩
def p14_b1 (n : Nat) (t2_0 : Int) : ((List Int) × Int) → Option (((List Int) × Int) ⊕ (((List Int) × Int × Bool)))
  | (v9_8, v10_9) => bif decide (v10_9 ≤ t2_0) then (app2 8 v9_8 ([v10_9] : List Int)).bind fun v43_14 => some (.inl (v43_14, (IntKind.wrap .i64 (v10_9 + (1 : Int))))) else some (.inr (v9_8, v10_9, (decide (v10_9 ≤ t2_0))))
def p14_b2 (n : Nat) (t1_0 : Int) : ((List Int) × Int) → Option (((List Int) × Int) ⊕ (((List Int) × Int × Bool)))
  | (v9_17, v10_18) => bif decide (v10_18 ≤ (IntKind.wrap .i64 (t1_0 - (1 : Int)))) then (app2 8 v9_17 ([v10_18] : List Int)).bind fun v43_23 => some (.inl (v43_23, (IntKind.wrap .i64 (v10_18 + (1 : Int))))) else some (.inr (v9_17, v10_18, (decide (v10_18 ≤ (IntKind.wrap .i64 (t1_0 - (1 : Int)))))))
def p14_b3 (n : Nat) (t1_0 : Int) : ((List Int) × Int) → Option (((List Int) × Int) ⊕ (((List Int) × Int × Bool)))
  | (v9_26, v10_27) => bif decide (v10_27 ≤ (IntKind.wrap .i64 (t1_0 - (1 : Int)))) then (app2 8 v9_26 ([v10_27] : List Int)).bind fun v43_32 => some (.inl (v43_32, (IntKind.wrap .i64 (v10_27 + (1 : Int))))) else some (.inr (v9_26, v10_27, (decide (v10_27 ≤ (IntKind.wrap .i64 (t1_0 - (1 : Int)))))))
def p14 (n : Nat) (t0_0 : Int) (t1_0 : Int) (t2_0 : Int) : Option ((List Int)) :=
  ((p57 n t1_0 (1 : Int) (100 : Int)).bind fun c12_3 => bif !c12_3 then some true else (p57 n t2_0 (0 : Int) (IntKind.wrap .i64 (t1_0 - (1 : Int)))).bind fun c18_5 => some (!c18_5)).bind fun v20_2 => bif v20_2 then some ([] : List Int) else bif decide (t0_0 = (1 : Int)) then (loopN (p14_b1 n t2_0) n (([] : List Int), t2_0)).bind fun (v9_10, v10_11, v37_12) => some v9_10 else bif decide (t0_0 = (2 : Int)) then (loopN (p14_b2 n t1_0) n (([] : List Int), (0 : Int))).bind fun (v9_19, v10_20, v37_21) => some v9_19 else bif decide (t0_0 = (3 : Int)) then (loopN (p14_b3 n t1_0) n (([] : List Int), t2_0)).bind fun (v9_28, v10_29, v37_30) => some v9_28 else some ([] : List Int)
theorem big14 {n : Nat} {t0_0 : Int} {t1_0 : Int} {t2_0 : Int} {r : (List Int)} (h : p14 n t0_0 t1_0 t2_0 = some r) : Big Try.prog τ An (.fn 14 [.one (.c (.int .i64 t0_0)), .one (.c (.int .i64 t1_0)), .one (.c (.int .i64 t2_0))] [] (.one (.c (.sl (r.map rI_i64)))) none [] none) := by
  unfold p14 at h
  refine Big.of Try.func14 rfl rfl rfl rfl ?_
  have s0 : (DA [.one (.c (.int .i64 t0_0)), .one (.c (.int .i64 t1_0)), .one (.c (.int .i64 t2_0))] []).sl 0 = .one (.c (.int .i64 t0_0)) := rfl
  have s1 : (DA [.one (.c (.int .i64 t0_0)), .one (.c (.int .i64 t1_0)), .one (.c (.int .i64 t2_0))] []).sl 1 = .one (.c (.int .i64 t1_0)) := rfl
  have s2 : (DA [.one (.c (.int .i64 t0_0)), .one (.c (.int .i64 t1_0)), .one (.c (.int .i64 t2_0))] []).sl 2 = .one (.c (.int .i64 t2_0)) := rfl
  generalize DA [.one (.c (.int .i64 t0_0)), .one (.c (.int .i64 t1_0)), .one (.c (.int .i64 t2_0))] [] = x at s0 s1 s2 ⊢
  refine c_reg (fun x => x.sl 0 = .one (.c (.int .i64 t0_0)) ∧ x.sl 1 = .one (.c (.int .i64 t1_0)) ∧ x.sl 2 = .one (.c (.int .i64 t2_0))) ?_ ?_
  · rw [← put_self s0, ← put_self s1, ← put_self s2]
    refine asg rfl (by conv => lhs; whnf) rfl ?_
    refine step_nil ?_
    exact ⟨rfl, rfl, rfl⟩
  clear s0 s1 s2
  intro x hM
  obtain ⟨s0, s1, s2⟩ := hM
  refine c_seq ?_
  obtain ⟨v20_2, hr, h⟩ := bind_some h
  refine c_reg (fun x => x.sl 0 = .one (.c (.int .i64 t0_0)) ∧ x.sl 1 = .one (.c (.int .i64 t1_0)) ∧ x.sl 2 = .one (.c (.int .i64 t2_0)) ∧ x.sl 20 = .one (.c (.bool v20_2))) ?_ ?_
  · clear h
    rw [← put_self s0, ← put_self s1, ← put_self s2]
    refine mv rfl (by conv => lhs; whnf) rfl ?_
    obtain ⟨c12_3, kc12_3, hr⟩ := bind_some hr
    refine cl0 (v' := .one (.c (.bool c12_3))) (big57 kc12_3) rfl rfl rfl rfl rfl rfl rfl rfl rfl ?_
    refine rd (.bool (!c12_3)) rfl rfl rfl rfl rfl ?_
    refine mv rfl (by conv => lhs; whnf) rfl ?_
    refine bif_cases hr (fun q4 hr => ?_) (fun q4 hr => ?_)
    · refine sk (g_ofc rfl (by conv => lhs; whnf) q4 rfl) ?_
      refine sk (g_ofc rfl (by conv => lhs; whnf) q4 rfl) ?_
      refine sk (g_ofc rfl (by conv => lhs; whnf) q4 rfl) ?_
      refine sk (g_ofc rfl (by conv => lhs; whnf) q4 rfl) ?_
      refine sk (g_ofc rfl (by conv => lhs; whnf) q4 rfl) ?_
      refine pkc rfl (by conv => lhs; whnf) q4 (by conv => lhs; whnf) rfl ?_
      refine step_nil ?_
      cases hr
      exact ⟨rfl, rfl, rfl, rfl⟩
    · refine mv (g_ofc rfl (by conv => lhs; whnf) q4 rfl) (by conv => lhs; whnf) rfl ?_
      refine mv (g_ofc rfl (by conv => lhs; whnf) q4 rfl) (by conv => lhs; whnf) rfl ?_
      refine rd (.int .i64 (IntKind.wrap .i64 (t1_0 - (1 : Int)))) (g_ofc rfl (by conv => lhs; whnf) q4 rfl) rfl rfl rfl rfl ?_
      obtain ⟨c18_5, kc18_5, hr⟩ := bind_some hr
      refine cl0 (v' := .one (.c (.bool c18_5))) (big57 kc18_5) (g_ofc rfl (by conv => lhs; whnf) q4 rfl) rfl rfl rfl rfl rfl rfl rfl rfl ?_
      refine rd (.bool (!c18_5)) (g_ofc rfl (by conv => lhs; whnf) q4 rfl) rfl rfl rfl rfl ?_
      refine pkc rfl (by conv => lhs; whnf) q4 (by conv => lhs; whnf) rfl ?_
      refine step_nil ?_
      cases hr
      exact ⟨rfl, rfl, rfl, rfl⟩
  clear hr
  clear s0 s1 s2
  intro x hM
  obtain ⟨s0, s1, s2, s20⟩ := hM
  refine bif_cases h (fun q6 h => ?_) (fun q6 h => ?_)
  · refine c_ct (by rw [← q6]; exact s20) ?_
    refine c_reg (fun x => x.sl 6 = .one (.c (.sl ([].map rI_i64)))) ?_ ?_
    · rw [← put_self s0, ← put_self s1, ← put_self s2, ← put_self s20]
      refine asg rfl (by conv => lhs; whnf) rfl ?_
      refine step_nil ?_
      exact rfl
    clear s0 s1 s2 s20
    intro x s6
    refine c_ret ?_
    cases h
    show _ ∧ _
    rw [← put_self s6]
    exact ⟨.inr rfl, _, rfl, rfl, rfl, rfl⟩
  · refine c_cf (by rw [← q6]; exact s20) ?_
    refine c_skip ?_
    show vcC _ _ _ _ _ _ _
    refine c_reg (fun x => x.sl 0 = .one (.c (.int .i64 t0_0)) ∧ x.sl 1 = .one (.c (.int .i64 t1_0)) ∧ x.sl 7 = .one (.c (.int .i64 t2_0)) ∧ x.sl 8 = .one (.c (.int .i64 t2_0))) ?_ ?_
    · rw [← put_self s0, ← put_self s1, ← put_self s2, ← put_self s20]
      refine mv rfl (by conv => lhs; whnf) rfl ?_
      refine mv rfl (by conv => lhs; whnf) rfl ?_
      refine asg rfl (by conv => lhs; whnf) rfl ?_
      refine asg rfl (by conv => lhs; whnf) rfl ?_
      refine step_nil ?_
      exact ⟨rfl, rfl, rfl, rfl⟩
    clear s0 s1 s2 s20
    intro x hM
    obtain ⟨s0, s1, s7, s8⟩ := hM
    refine c_seq ?_
    refine c_reg (fun x => x.sl 1 = .one (.c (.int .i64 t1_0)) ∧ x.sl 7 = .one (.c (.int .i64 t2_0)) ∧ x.sl 8 = .one (.c (.int .i64 t2_0)) ∧ x.sl 23 = .one (.c (.int .i64 t0_0))) ?_ ?_
    · rw [← put_self s0, ← put_self s1, ← put_self s7, ← put_self s8]
      refine mv rfl (by conv => lhs; whnf) rfl ?_
      refine step_nil ?_
      exact ⟨rfl, rfl, rfl, rfl⟩
    clear s0 s1 s7 s8
    intro x hM
    obtain ⟨s1, s7, s8, s23⟩ := hM
    refine c_block ?_
    refine c_reg (fun x => x.sl 1 = .one (.c (.int .i64 t1_0)) ∧ x.sl 7 = .one (.c (.int .i64 t2_0)) ∧ x.sl 8 = .one (.c (.int .i64 t2_0)) ∧ x.sl 23 = .one (.c (.int .i64 t0_0)) ∧ x.sl 24 = .one (.c (.bool (decide (t0_0 = (1 : Int)))))) ?_ ?_
    · rw [← put_self s1, ← put_self s7, ← put_self s8, ← put_self s23]
      refine rd (.bool (decide (t0_0 = (1 : Int)))) rfl rfl rfl rfl rfl ?_
      refine asg rfl (by conv => lhs; whnf) rfl ?_
      refine step_nil ?_
      exact ⟨rfl, rfl, rfl, rfl, rfl⟩
    clear s1 s7 s8 s23
    intro x hM
    obtain ⟨s1, s7, s8, s23, s24⟩ := hM
    refine bif_cases h (fun q7 h => ?_) (fun q7 h => ?_)
    · refine c_ct (by rw [← q7]; exact s24) ?_
      refine c_skip ?_
      show vcC _ _ _ _ _ _ _
      refine c_reg (fun x => x.sl 7 = .one (.c (.int .i64 t2_0)) ∧ x.sl 8 = .one (.c (.int .i64 t2_0)) ∧ x.sl 9 = .one (.c (.sl ([].map rI_i64)))) ?_ ?_
      · rw [← put_self s1, ← put_self s7, ← put_self s8, ← put_self s23, ← put_self s24]
        refine asg rfl (by conv => lhs; whnf) rfl ?_
        refine step_nil ?_
        exact ⟨rfl, rfl, rfl⟩
      clear s1 s7 s8 s23 s24
      intro x hM
      obtain ⟨s7, s8, s9⟩ := hM
      refine c_seq ?_
      refine c_reg (fun x => x.sl 8 = .one (.c (.int .i64 t2_0)) ∧ x.sl 9 = .one (.c (.sl ([].map rI_i64))) ∧ x.sl 10 = .one (.c (.int .i64 t2_0))) ?_ ?_
      · rw [← put_self s7, ← put_self s8, ← put_self s9]
        refine mv rfl (by conv => lhs; whnf) rfl ?_
        refine asg rfl (by conv => lhs; whnf) rfl ?_
        refine step_nil ?_
        exact ⟨rfl, rfl, rfl⟩
      clear s7 s8 s9
      intro x hM
      obtain ⟨s8, s9, s10⟩ := hM
      obtain ⟨q15, hq, h⟩ := bind_some h
      refine c_block ?_
      refine Wd.loopN (fun s x => match s with | (v9_8, v10_9) => x.sl 8 = .one (.c (.int .i64 t2_0)) ∧ x.sl 9 = .one (.c (.sl (v9_8.map rI_i64))) ∧ x.sl 10 = .one (.c (.int .i64 v10_9))) (fun q e x => match q with | (v9_10, v10_11, v37_12) => e = .e 1 ∧ x.sl 8 = .one (.c (.int .i64 t2_0)) ∧ x.sl 9 = .one (.c (.sl (v9_10.map rI_i64))) ∧ x.sl 10 = .one (.c (.int .i64 v10_11)) ∧ x.sl 37 = .one (.c (.bool v37_12))) ?_ hq (⟨s8, s9, s10⟩) ?_
      · clear h hq
        clear s8 s9 s10
        intro st o x hR h
        obtain ⟨v9_8, v10_9⟩ := st
        obtain ⟨s8, s9, s10⟩ := hR
        unfold p14_b1 at h
        refine c_seq ?_
        refine c_reg (fun x => x.sl 8 = .one (.c (.int .i64 t2_0)) ∧ x.sl 9 = .one (.c (.sl (v9_8.map rI_i64))) ∧ x.sl 10 = .one (.c (.int .i64 v10_9)) ∧ x.sl 37 = .one (.c (.bool (decide (v10_9 ≤ t2_0))))) ?_ ?_
        · rw [← put_self s8, ← put_self s9, ← put_self s10]
          refine mv rfl (by conv => lhs; whnf) rfl ?_
          refine mv rfl (by conv => lhs; whnf) rfl ?_
          refine rd (.bool (decide (v10_9 ≤ t2_0))) rfl rfl rfl rfl rfl ?_
          refine step_nil ?_
          exact ⟨rfl, rfl, rfl, rfl⟩
        clear s8 s9 s10
        intro x hM
        obtain ⟨s8, s9, s10, s37⟩ := hM
        refine bif_cases h (fun q13 h => ?_) (fun q13 h => ?_)
        · refine c_ct (by rw [← q13]; exact s37) ?_
          refine c_skip ?_
          show vcC _ _ _ _ _ _ _
          refine c_seq ?_
          refine c_block ?_
          obtain ⟨v43_14, kv43_14, h⟩ := bind_some h
          refine c_regl (fun x => x.sl 8 = .one (.c (.int .i64 t2_0)) ∧ x.sl 9 = .one (.c (.sl (v43_14.map rI_i64))) ∧ x.sl 10 = .one (.c (.int .i64 v10_9))) ?_ ?_
          · rw [← put_self s8, ← put_self s9, ← put_self s10, ← put_self s37]
            refine mv rfl (by conv => lhs; whnf) rfl ?_
            refine mv rfl (by conv => lhs; whnf) rfl ?_
            refine lit (L := ([v10_9] : List Int)) (f := rI_i64) rfl rfl rfl rfl rfl rfl rfl ?_
            refine apd (f := rI_i64) kv43_14 rfl rfl rfl rfl (by conv => lhs; whnf) rfl rfl rfl (fun _ => rfl) (fun _ => rfl) rfl ?_
            refine asg rfl (by conv => lhs; whnf) rfl ?_
            refine step_nil ?_
            exact ⟨rfl, rfl, rfl⟩
          clear s8 s9 s10 s37
          intro x hM
          obtain ⟨s8, s9, s10⟩ := hM
          show vcC _ _ _ _ _ _ _
          refine c_regl (fun x => x.sl 8 = .one (.c (.int .i64 t2_0)) ∧ x.sl 9 = .one (.c (.sl (v43_14.map rI_i64))) ∧ x.sl 10 = .one (.c (.int .i64 (IntKind.wrap .i64 (v10_9 + (1 : Int)))))) ?_ ?_
          · rw [← put_self s8, ← put_self s9, ← put_self s10]
            refine mv rfl (by conv => lhs; whnf) rfl ?_
            refine rd (.int .i64 (IntKind.wrap .i64 (v10_9 + (1 : Int)))) rfl rfl rfl rfl rfl ?_
            refine asg rfl (by conv => lhs; whnf) rfl ?_
            refine step_nil ?_
            exact ⟨rfl, rfl, rfl⟩
          clear s8 s9 s10
          intro x hM
          obtain ⟨s8, s9, s10⟩ := hM
          cases h
          show _ ∧ _
          exact ⟨rfl, s8, s9, s10⟩
        · refine c_cf (by rw [← q13]; exact s37) ?_
          refine c_exit ?_
          cases h
          show _ ∧ _
          exact ⟨nofun, rfl, s8, s9, s10, s37⟩
      clear hq
      clear s8 s9 s10
      intro e x hM
      obtain ⟨v9_10, v10_11, v37_12⟩ := q15
      obtain ⟨rfl, s8, s9, s10, s37⟩ := hM
      show vcC _ _ _ _ _ _ _
      refine c_reg (fun x => x.sl 6 = .one (.c (.sl (v9_10.map rI_i64)))) ?_ ?_
      · rw [← put_self s8, ← put_self s9, ← put_self s10, ← put_self s37]
        refine mv rfl (by conv => lhs; whnf) rfl ?_
        refine asg rfl (by conv => lhs; whnf) rfl ?_
        refine step_nil ?_
        exact rfl
      clear s8 s9 s10 s37
      intro x s6
      refine c_ret ?_
      cases h
      show _ ∧ _
      rw [← put_self s6]
      exact ⟨.inr rfl, _, rfl, rfl, rfl, rfl⟩
    · refine c_cf (by rw [← q7]; exact s24) ?_
      refine c_reg (fun x => x.sl 1 = .one (.c (.int .i64 t1_0)) ∧ x.sl 7 = .one (.c (.int .i64 t2_0)) ∧ x.sl 23 = .one (.c (.int .i64 t0_0)) ∧ x.sl 26 = .one (.c (.bool (decide (t0_0 = (2 : Int)))))) ?_ ?_
      · rw [← put_self s1, ← put_self s7, ← put_self s8, ← put_self s23, ← put_self s24]
        refine rd (.bool (decide (t0_0 = (2 : Int)))) rfl rfl rfl rfl rfl ?_
        refine asg rfl (by conv => lhs; whnf) rfl ?_
        refine step_nil ?_
        exact ⟨rfl, rfl, rfl, rfl⟩
      clear s1 s7 s8 s23 s24
      intro x hM
      obtain ⟨s1, s7, s23, s26⟩ := hM
      refine bif_cases h (fun q16 h => ?_) (fun q16 h => ?_)
      · refine c_ct (by rw [← q16]; exact s26) ?_
        refine c_regl (fun x => x.sl 7 = .one (.c (.int .i64 0)) ∧ x.sl 8 = .one (.c (.int .i64 (IntKind.wrap .i64 (t1_0 - (1 : Int)))))) ?_ ?_
        · rw [← put_self s1, ← put_self s7, ← put_self s23, ← put_self s26]
          refine mv rfl (by conv => lhs; whnf) rfl ?_
          refine rd (.int .i64 (IntKind.wrap .i64 (t1_0 - (1 : Int)))) rfl rfl rfl rfl rfl ?_
          refine asg rfl (by conv => lhs; whnf) rfl ?_
          refine asg rfl (by conv => lhs; whnf) rfl ?_
          refine step_nil ?_
          exact ⟨rfl, rfl⟩
        clear s1 s7 s23 s26
        intro x hM
        obtain ⟨s7, s8⟩ := hM
        show vcC _ _ _ _ _ _ _
        refine c_reg (fun x => x.sl 7 = .one (.c (.int .i64 0)) ∧ x.sl 8 = .one (.c (.int .i64 (IntKind.wrap .i64 (t1_0 - (1 : Int))))) ∧ x.sl 9 = .one (.c (.sl ([].map rI_i64)))) ?_ ?_
        · rw [← put_self s7, ← put_self s8]
          refine asg rfl (by conv => lhs; whnf) rfl ?_
          refine step_nil ?_
          exact ⟨rfl, rfl, rfl⟩
        clear s7 s8
        intro x hM
        obtain ⟨s7, s8, s9⟩ := hM
        refine c_seq ?_
        refine c_reg (fun x => x.sl 8 = .one (.c (.int .i64 (IntKind.wrap .i64 (t1_0 - (1 : Int))))) ∧ x.sl 9 = .one (.c (.sl ([].map rI_i64))) ∧ x.sl 10 = .one (.c (.int .i64 0))) ?_ ?_
        · rw [← put_self s7, ← put_self s8, ← put_self s9]
          refine mv rfl (by conv => lhs; whnf) rfl ?_
          refine asg rfl (by conv => lhs; whnf) rfl ?_
          refine step_nil ?_
          exact ⟨rfl, rfl, rfl⟩
        clear s7 s8 s9
        intro x hM
        obtain ⟨s8, s9, s10⟩ := hM
        obtain ⟨q24, hq, h⟩ := bind_some h
        refine c_block ?_
        refine Wd.loopN (fun s x => match s with | (v9_17, v10_18) => x.sl 8 = .one (.c (.int .i64 (IntKind.wrap .i64 (t1_0 - (1 : Int))))) ∧ x.sl 9 = .one (.c (.sl (v9_17.map rI_i64))) ∧ x.sl 10 = .one (.c (.int .i64 v10_18))) (fun q e x => match q with | (v9_19, v10_20, v37_21) => e = .e 1 ∧ x.sl 8 = .one (.c (.int .i64 (IntKind.wrap .i64 (t1_0 - (1 : Int))))) ∧ x.sl 9 = .one (.c (.sl (v9_19.map rI_i64))) ∧ x.sl 10 = .one (.c (.int .i64 v10_20)) ∧ x.sl 37 = .one (.c (.bool v37_21))) ?_ hq (⟨s8, s9, s10⟩) ?_
        · clear h hq
          clear s8 s9 s10
          intro st o x hR h
          obtain ⟨v9_17, v10_18⟩ := st
          obtain ⟨s8, s9, s10⟩ := hR
          unfold p14_b2 at h
          refine c_seq ?_
          refine c_reg (fun x => x.sl 8 = .one (.c (.int .i64 (IntKind.wrap .i64 (t1_0 - (1 : Int))))) ∧ x.sl 9 = .one (.c (.sl (v9_17.map rI_i64))) ∧ x.sl 10 = .one (.c (.int .i64 v10_18)) ∧ x.sl 37 = .one (.c (.bool (decide (v10_18 ≤ (IntKind.wrap .i64 (t1_0 - (1 : Int)))))))) ?_ ?_
          · rw [← put_self s8, ← put_self s9, ← put_self s10]
            refine mv rfl (by conv => lhs; whnf) rfl ?_
            refine mv rfl (by conv => lhs; whnf) rfl ?_
            refine rd (.bool (decide (v10_18 ≤ (IntKind.wrap .i64 (t1_0 - (1 : Int)))))) rfl rfl rfl rfl rfl ?_
            refine step_nil ?_
            exact ⟨rfl, rfl, rfl, rfl⟩
          clear s8 s9 s10
          intro x hM
          obtain ⟨s8, s9, s10, s37⟩ := hM
          refine bif_cases h (fun q22 h => ?_) (fun q22 h => ?_)
          · refine c_ct (by rw [← q22]; exact s37) ?_
            refine c_skip ?_
            show vcC _ _ _ _ _ _ _
            refine c_seq ?_
            refine c_block ?_
            obtain ⟨v43_23, kv43_23, h⟩ := bind_some h
            refine c_regl (fun x => x.sl 8 = .one (.c (.int .i64 (IntKind.wrap .i64 (t1_0 - (1 : Int))))) ∧ x.sl 9 = .one (.c (.sl (v43_23.map rI_i64))) ∧ x.sl 10 = .one (.c (.int .i64 v10_18))) ?_ ?_
            · rw [← put_self s8, ← put_self s9, ← put_self s10, ← put_self s37]
              refine mv rfl (by conv => lhs; whnf) rfl ?_
              refine mv rfl (by conv => lhs; whnf) rfl ?_
              refine lit (L := ([v10_18] : List Int)) (f := rI_i64) rfl rfl rfl rfl rfl rfl rfl ?_
              refine apd (f := rI_i64) kv43_23 rfl rfl rfl rfl (by conv => lhs; whnf) rfl rfl rfl (fun _ => rfl) (fun _ => rfl) rfl ?_
              refine asg rfl (by conv => lhs; whnf) rfl ?_
              refine step_nil ?_
              exact ⟨rfl, rfl, rfl⟩
            clear s8 s9 s10 s37
            intro x hM
            obtain ⟨s8, s9, s10⟩ := hM
            show vcC _ _ _ _ _ _ _
            refine c_regl (fun x => x.sl 8 = .one (.c (.int .i64 (IntKind.wrap .i64 (t1_0 - (1 : Int))))) ∧ x.sl 9 = .one (.c (.sl (v43_23.map rI_i64))) ∧ x.sl 10 = .one (.c (.int .i64 (IntKind.wrap .i64 (v10_18 + (1 : Int)))))) ?_ ?_
            · rw [← put_self s8, ← put_self s9, ← put_self s10]
              refine mv rfl (by conv => lhs; whnf) rfl ?_
              refine rd (.int .i64 (IntKind.wrap .i64 (v10_18 + (1 : Int)))) rfl rfl rfl rfl rfl ?_
              refine asg rfl (by conv => lhs; whnf) rfl ?_
              refine step_nil ?_
              exact ⟨rfl, rfl, rfl⟩
            clear s8 s9 s10
            intro x hM
            obtain ⟨s8, s9, s10⟩ := hM
            cases h
            show _ ∧ _
            exact ⟨rfl, s8, s9, s10⟩
          · refine c_cf (by rw [← q22]; exact s37) ?_
            refine c_exit ?_
            cases h
            show _ ∧ _
            exact ⟨nofun, rfl, s8, s9, s10, s37⟩
        clear hq
        clear s8 s9 s10
        intro e x hM
        obtain ⟨v9_19, v10_20, v37_21⟩ := q24
        obtain ⟨rfl, s8, s9, s10, s37⟩ := hM
        show vcC _ _ _ _ _ _ _
        refine c_reg (fun x => x.sl 6 = .one (.c (.sl (v9_19.map rI_i64)))) ?_ ?_
        · rw [← put_self s8, ← put_self s9, ← put_self s10, ← put_self s37]
          refine mv rfl (by conv => lhs; whnf) rfl ?_
          refine asg rfl (by conv => lhs; whnf) rfl ?_
          refine step_nil ?_
          exact rfl
        clear s8 s9 s10 s37
        intro x s6
        refine c_ret ?_
        cases h
        show _ ∧ _
        rw [← put_self s6]
        exact ⟨.inr rfl, _, rfl, rfl, rfl, rfl⟩
      · refine c_cf (by rw [← q16]; exact s26) ?_
        refine c_reg (fun x => x.sl 1 = .one (.c (.int .i64 t1_0)) ∧ x.sl 7 = .one (.c (.int .i64 t2_0)) ∧ x.sl 30 = .one (.c (.bool (decide (t0_0 = (3 : Int)))))) ?_ ?_
        · rw [← put_self s1, ← put_self s7, ← put_self s23, ← put_self s26]
          refine rd (.bool (decide (t0_0 = (3 : Int)))) rfl rfl rfl rfl rfl ?_
          refine asg rfl (by conv => lhs; whnf) rfl ?_
          refine step_nil ?_
          exact ⟨rfl, rfl, rfl⟩
        clear s1 s7 s23 s26
        intro x hM
        obtain ⟨s1, s7, s30⟩ := hM
        refine bif_cases h (fun q25 h => ?_) (fun q25 h => ?_)
        · refine c_ct (by rw [← q25]; exact s30) ?_
          refine c_regl (fun x => x.sl 7 = .one (.c (.int .i64 t2_0)) ∧ x.sl 8 = .one (.c (.int .i64 (IntKind.wrap .i64 (t1_0 - (1 : Int)))))) ?_ ?_
          · rw [← put_self s1, ← put_self s7, ← put_self s30]
            refine mv rfl (by conv => lhs; whnf) rfl ?_
            refine rd (.int .i64 (IntKind.wrap .i64 (t1_0 - (1 : Int)))) rfl rfl rfl rfl rfl ?_
            refine asg rfl (by conv => lhs; whnf) rfl ?_
            refine step_nil ?_
            exact ⟨rfl, rfl⟩
          clear s1 s7 s30
          intro x hM
          obtain ⟨s7, s8⟩ := hM
          show vcC _ _ _ _ _ _ _
          refine c_reg (fun x => x.sl 7 = .one (.c (.int .i64 t2_0)) ∧ x.sl 8 = .one (.c (.int .i64 (IntKind.wrap .i64 (t1_0 - (1 : Int))))) ∧ x.sl 9 = .one (.c (.sl ([].map rI_i64)))) ?_ ?_
          · rw [← put_self s7, ← put_self s8]
            refine asg rfl (by conv => lhs; whnf) rfl ?_
            refine step_nil ?_
            exact ⟨rfl, rfl, rfl⟩
          clear s7 s8
          intro x hM
          obtain ⟨s7, s8, s9⟩ := hM
          refine c_seq ?_
          refine c_reg (fun x => x.sl 8 = .one (.c (.int .i64 (IntKind.wrap .i64 (t1_0 - (1 : Int))))) ∧ x.sl 9 = .one (.c (.sl ([].map rI_i64))) ∧ x.sl 10 = .one (.c (.int .i64 t2_0))) ?_ ?_
          · rw [← put_self s7, ← put_self s8, ← put_self s9]
            refine mv rfl (by conv => lhs; whnf) rfl ?_
            refine asg rfl (by conv => lhs; whnf) rfl ?_
            refine step_nil ?_
            exact ⟨rfl, rfl, rfl⟩
          clear s7 s8 s9
          intro x hM
          obtain ⟨s8, s9, s10⟩ := hM
          obtain ⟨q33, hq, h⟩ := bind_some h
          refine c_block ?_
          refine Wd.loopN (fun s x => match s with | (v9_26, v10_27) => x.sl 8 = .one (.c (.int .i64 (IntKind.wrap .i64 (t1_0 - (1 : Int))))) ∧ x.sl 9 = .one (.c (.sl (v9_26.map rI_i64))) ∧ x.sl 10 = .one (.c (.int .i64 v10_27))) (fun q e x => match q with | (v9_28, v10_29, v37_30) => e = .e 1 ∧ x.sl 8 = .one (.c (.int .i64 (IntKind.wrap .i64 (t1_0 - (1 : Int))))) ∧ x.sl 9 = .one (.c (.sl (v9_28.map rI_i64))) ∧ x.sl 10 = .one (.c (.int .i64 v10_29)) ∧ x.sl 37 = .one (.c (.bool v37_30))) ?_ hq (⟨s8, s9, s10⟩) ?_
          · clear h hq
            clear s8 s9 s10
            intro st o x hR h
            obtain ⟨v9_26, v10_27⟩ := st
            obtain ⟨s8, s9, s10⟩ := hR
            unfold p14_b3 at h
            refine c_seq ?_
            refine c_reg (fun x => x.sl 8 = .one (.c (.int .i64 (IntKind.wrap .i64 (t1_0 - (1 : Int))))) ∧ x.sl 9 = .one (.c (.sl (v9_26.map rI_i64))) ∧ x.sl 10 = .one (.c (.int .i64 v10_27)) ∧ x.sl 37 = .one (.c (.bool (decide (v10_27 ≤ (IntKind.wrap .i64 (t1_0 - (1 : Int)))))))) ?_ ?_
            · rw [← put_self s8, ← put_self s9, ← put_self s10]
              refine mv rfl (by conv => lhs; whnf) rfl ?_
              refine mv rfl (by conv => lhs; whnf) rfl ?_
              refine rd (.bool (decide (v10_27 ≤ (IntKind.wrap .i64 (t1_0 - (1 : Int)))))) rfl rfl rfl rfl rfl ?_
              refine step_nil ?_
              exact ⟨rfl, rfl, rfl, rfl⟩
            clear s8 s9 s10
            intro x hM
            obtain ⟨s8, s9, s10, s37⟩ := hM
            refine bif_cases h (fun q31 h => ?_) (fun q31 h => ?_)
            · refine c_ct (by rw [← q31]; exact s37) ?_
              refine c_skip ?_
              show vcC _ _ _ _ _ _ _
              refine c_seq ?_
              refine c_block ?_
              obtain ⟨v43_32, kv43_32, h⟩ := bind_some h
              refine c_regl (fun x => x.sl 8 = .one (.c (.int .i64 (IntKind.wrap .i64 (t1_0 - (1 : Int))))) ∧ x.sl 9 = .one (.c (.sl (v43_32.map rI_i64))) ∧ x.sl 10 = .one (.c (.int .i64 v10_27))) ?_ ?_
              · rw [← put_self s8, ← put_self s9, ← put_self s10, ← put_self s37]
                refine mv rfl (by conv => lhs; whnf) rfl ?_
                refine mv rfl (by conv => lhs; whnf) rfl ?_
                refine lit (L := ([v10_27] : List Int)) (f := rI_i64) rfl rfl rfl rfl rfl rfl rfl ?_
                refine apd (f := rI_i64) kv43_32 rfl rfl rfl rfl (by conv => lhs; whnf) rfl rfl rfl (fun _ => rfl) (fun _ => rfl) rfl ?_
                refine asg rfl (by conv => lhs; whnf) rfl ?_
                refine step_nil ?_
                exact ⟨rfl, rfl, rfl⟩
              clear s8 s9 s10 s37
              intro x hM
              obtain ⟨s8, s9, s10⟩ := hM
              show vcC _ _ _ _ _ _ _
              refine c_regl (fun x => x.sl 8 = .one (.c (.int .i64 (IntKind.wrap .i64 (t1_0 - (1 : Int))))) ∧ x.sl 9 = .one (.c (.sl (v43_32.map rI_i64))) ∧ x.sl 10 = .one (.c (.int .i64 (IntKind.wrap .i64 (v10_27 + (1 : Int)))))) ?_ ?_
              · rw [← put_self s8, ← put_self s9, ← put_self s10]
                refine mv rfl (by conv => lhs; whnf) rfl ?_
                refine rd (.int .i64 (IntKind.wrap .i64 (v10_27 + (1 : Int)))) rfl rfl rfl rfl rfl ?_
                refine asg rfl (by conv => lhs; whnf) rfl ?_
                refine step_nil ?_
                exact ⟨rfl, rfl, rfl⟩
              clear s8 s9 s10
              intro x hM
              obtain ⟨s8, s9, s10⟩ := hM
              cases h
              show _ ∧ _
              exact ⟨rfl, s8, s9, s10⟩
            · refine c_cf (by rw [← q31]; exact s37) ?_
              refine c_exit ?_
              cases h
              show _ ∧ _
              exact ⟨nofun, rfl, s8, s9, s10, s37⟩
          clear hq
          clear s8 s9 s10
          intro e x hM
          obtain ⟨v9_28, v10_29, v37_30⟩ := q33
          obtain ⟨rfl, s8, s9, s10, s37⟩ := hM
          show vcC _ _ _ _ _ _ _
          refine c_reg (fun x => x.sl 6 = .one (.c (.sl (v9_28.map rI_i64)))) ?_ ?_
          · rw [← put_self s8, ← put_self s9, ← put_self s10, ← put_self s37]
            refine mv rfl (by conv => lhs; whnf) rfl ?_
            refine asg rfl (by conv => lhs; whnf) rfl ?_
            refine step_nil ?_
            exact rfl
          clear s8 s9 s10 s37
          intro x s6
          refine c_ret ?_
          cases h
          show _ ∧ _
          rw [← put_self s6]
          exact ⟨.inr rfl, _, rfl, rfl, rfl, rfl⟩
        · refine c_cf (by rw [← q25]; exact s30) ?_
          refine c_reg (fun x => x.sl 6 = .one (.c (.sl ([].map rI_i64)))) ?_ ?_
          · rw [← put_self s1, ← put_self s7, ← put_self s30]
            refine asg rfl (by conv => lhs; whnf) rfl ?_
            refine step_nil ?_
            exact rfl
          clear s1 s7 s30
          intro x s6
          refine c_ret ?_
          cases h
          show _ ∧ _
          rw [← put_self s6]
          exact ⟨.inr rfl, _, rfl, rfl, rfl, rfl⟩
def p18 (n : Nat) (t0_0 : List Int) : Option (Bool) :=
  some (decide ((1048576 : Int) < (t0_0.length : Int)))
theorem big18 {n : Nat} {t0_0 : List Int} {r : Bool} (h : p18 n t0_0 = some r) : Big Try.prog τ An (.fn 18 [.one (.c (.sl (t0_0.map rI_u8)))] [] (.one (.c (.bool r))) none [] none) := by
  unfold p18 at h
  refine Big.of Try.func18 rfl rfl rfl rfl ?_
  have s0 : (DA [.one (.c (.sl (t0_0.map rI_u8)))] []).sl 0 = .one (.c (.sl (t0_0.map rI_u8))) := rfl
  generalize DA [.one (.c (.sl (t0_0.map rI_u8)))] [] = x at s0 ⊢
  refine c_reg (fun x => x.sl 0 = .one (.c (.sl (t0_0.map rI_u8)))) ?_ ?_
  · rw [← put_self s0]
    refine asg rfl (by conv => lhs; whnf) rfl ?_
    refine step_nil ?_
    exact rfl
  clear s0
  intro x s0
  refine c_reg (fun x => x.sl 2 = .one (.c (.bool (decide ((1048576 : Int) < (t0_0.length : Int)))))) ?_ ?_
  · rw [← put_self s0]
    refine mv rfl (by conv => lhs; whnf) rfl ?_
    refine ln rfl rfl (by conv => lhs; whnf) rfl ?_
    refine rd (.bool (decide ((1048576 : Int) < (t0_0.length : Int)))) rfl rfl rfl rfl rfl ?_
    refine asg rfl (by conv => lhs; whnf) rfl ?_
    refine step_nil ?_
    exact rfl
  clear s0
  intro x s2
  refine c_ret ?_
  cases h
  show _ ∧ _
  rw [← put_self s2]
  exact ⟨.inr rfl, _, rfl, rfl, rfl, rfl⟩
def p58_b1 (n : Nat) (t0_0 : List Int) : (Int × Int) → Option ((Int × Int) ⊕ ((Int × Int × Bool)))
  | (v3_1, v4_2) => (bif decide (v4_2 < (t0_0.length : Int)) then some (decide (v4_2 < (4000 : Int))) else some false).bind fun v15_6 => bif v15_6 then (ix t0_0 v4_2).bind fun e22_9 => some (.inl ((bits .and .i64 (IntKind.wrap .i64 ((IntKind.wrap .i64 ((IntKind.wrap .i64 (v3_1 * (137 : Int))) + (IntKind.wrap .i64 e22_9))) + (11 : Int))) (1073741823 : Int)), (IntKind.wrap .i64 (v4_2 + (1 : Int))))) else some (.inr (v3_1, v4_2, v15_6))
def p58 (n : Nat) (t0_0 : List Int) : Option ((List Int) × Int × Int) :=
  (loopN (p58_b1 n t0_0) n ((IntKind.wrap .i64 ((375375 : Int) + (t0_0.length : Int))), (0 : Int))).bind fun (v3_3, v4_4, v15_5) => some (t0_0, (0 : Int), v3_3)
theorem big58 {n : Nat} {t0_0 : List Int} {r : (List Int) × Int × Int} (h : p58 n t0_0 = some r) : Big Try.prog τ An (.fn 58 [.one (.c (.sl (t0_0.map rI_u8)))] [] (.one (.ptr 0 0)) none [] (some [.sl (r.1.map rI_u8), .int .i64 r.2.1, .int .i64 r.2.2])) := by
  unfold p58 at h
  refine Big.of Try.func58 rfl rfl rfl rfl ?_
  have s0 : (DA [.one (.c (.sl (t0_0.map rI_u8)))] []).sl 0 = .one (.c (.sl (t0_0.map rI_u8))) := rfl
  generalize DA [.one (.c (.sl (t0_0.map rI_u8)))] [] = x at s0 ⊢
  refine c_reg (fun x => x.sl 0 = .one (.c (.sl (t0_0.map rI_u8)))) ?_ ?_
  · rw [← put_self s0]
    refine asg rfl (by conv => lhs; whnf) rfl ?_
    refine step_nil ?_
    exact rfl
  clear s0
  intro x s0
  refine c_reg (fun x => x.sl 0 = .one (.c (.sl (t0_0.map rI_u8))) ∧ x.sl 3 = .one (.c (.int .i64 (IntKind.wrap .i64 ((375375 : Int) + (t0_0.length : Int)))))) ?_ ?_
  · rw [← put_self s0]
    refine mv rfl (by conv => lhs; whnf) rfl ?_
    refine ln rfl rfl (by conv => lhs; whnf) rfl ?_
    refine rd (.int .i64 (IntKind.wrap .i64 ((375375 : Int) + (t0_0.length : Int)))) rfl rfl rfl rfl rfl ?_
    refine asg rfl (by conv => lhs; whnf) rfl ?_
    refine step_nil ?_
    exact ⟨rfl, rfl⟩
  clear s0
  intro x hM
  obtain ⟨s0, s3⟩ := hM
  refine c_seq ?_
  refine c_reg (fun x => x.sl 0 = .one (.c (.sl (t0_0.map rI_u8))) ∧ x.sl 3 = .one (.c (.int .i64 (IntKind.wrap .i64 ((375375 : Int) + (t0_0.length : Int))))) ∧ x.sl 4 = .one (.c (.int .i64 0))) ?_ ?_
  · rw [← put_self s0, ← put_self s3]
    refine asg rfl (by conv => lhs; whnf) rfl ?_
    refine step_nil ?_
    exact ⟨rfl, rfl, rfl⟩
  clear s0 s3
  intro x hM
  obtain ⟨s0, s3, s4⟩ := hM
  obtain ⟨q10, hq, h⟩ := bind_some h
  refine c_block ?_
  refine Wd.loopN (fun s x => match s with | (v3_1, v4_2) => x.sl 0 = .one (.c (.sl (t0_0.map rI_u8))) ∧ x.sl 3 = .one (.c (.int .i64 v3_1)) ∧ x.sl 4 = .one (.c (.int .i64 v4_2))) (fun q e x => match q with | (v3_3, v4_4, v15_5) => e = .e 0 ∧ x.sl 0 = .one (.c (.sl (t0_0.map rI_u8))) ∧ x.sl 3 = .one (.c (.int .i64 v3_3)) ∧ x.sl 4 = .one (.c (.int .i64 v4_4)) ∧ x.sl 15 = .one (.c (.bool v15_5))) ?_ hq (⟨s0, s3, s4⟩) ?_
  · clear h hq
    clear s0 s3 s4
    intro st o x hR h
    obtain ⟨v3_1, v4_2⟩ := st
    obtain ⟨s0, s3, s4⟩ := hR
    unfold p58_b1 at h
    refine c_seq ?_
    obtain ⟨v15_6, hr, h⟩ := bind_some h
    refine c_reg (fun x => x.sl 0 = .one (.c (.sl (t0_0.map rI_u8))) ∧ x.sl 3 = .one (.c (.int .i64 v3_1)) ∧ x.sl 4 = .one (.c (.int .i64 v4_2)) ∧ x.sl 15 = .one (.c (.bool v15_6))) ?_ ?_
    · clear h
      rw [← put_self s0, ← put_self s3, ← put_self s4]
      refine mv rfl (by conv => lhs; whnf) rfl ?_
      refine mv rfl (by conv => lhs; whnf) rfl ?_
      refine ln rfl rfl (by conv => lhs; whnf) rfl ?_
      refine rd (.bool (decide (v4_2 < (t0_0.length : Int)))) rfl rfl rfl rfl rfl ?_
      refine mv rfl (by conv => lhs; whnf) rfl ?_
      refine bif_cases hr (fun q7 hr => ?_) (fun q7 hr => ?_)
      · refine mv (g_ofc rfl (by conv => lhs; whnf) q7 rfl) (by conv => lhs; whnf) rfl ?_
        refine rd (.bool (decide (v4_2 < (4000 : Int)))) (g_ofc rfl (by conv => lhs; whnf) q7 rfl) rfl rfl rfl rfl ?_
        refine pkc rfl (by conv => lhs; whnf) q7 (by conv => lhs; whnf) rfl ?_
        refine step_nil ?_
        cases hr
        exact ⟨rfl, rfl, rfl, rfl⟩
      · refine sk (g_ofc rfl (by conv => lhs; whnf) q7 rfl) ?_
        refine sk (g_ofc rfl (by conv => lhs; whnf) q7 rfl) ?_
        refine pkc rfl (by conv => lhs; whnf) q7 (by conv => lhs; whnf) rfl ?_
        refine step_nil ?_
        cases hr
        exact ⟨rfl, rfl, rfl, rfl⟩
    clear hr
    clear s0 s3 s4
    intro x hM
    obtain ⟨s0, s3, s4, s15⟩ := hM
    refine bif_cases h (fun q8 h => ?_) (fun q8 h => ?_)
    · refine c_ct (by rw [← q8]; exact s15) ?_
      refine c_skip ?_
      show vcC _ _ _ _ _ _ _
      refine c_seq ?_
      refine c_block ?_
      obtain ⟨e22_9, ke22_9, h⟩ := bind_some h
      refine c_regl (fun x => x.sl 0 = .one (.c (.sl (t0_0.map rI_u8))) ∧ x.sl 3 = .one (.c (.int .i64 (bits .and .i64 (IntKind.wrap .i64 ((IntKind.wrap .i64 ((IntKind.wrap .i64 (v3_1 * (137 : Int))) + (IntKind.wrap .i64 e22_9))) + (11 : Int))) (1073741823 : Int)))) ∧ x.sl 4 = .one (.c (.int .i64 v4_2))) ?_ ?_
      · rw [← put_self s0, ← put_self s3, ← put_self s4, ← put_self s15]
        refine mv rfl (by conv => lhs; whnf) rfl ?_
        refine rd (.int .i64 (IntKind.wrap .i64 (v3_1 * (137 : Int)))) rfl rfl rfl rfl rfl ?_
        refine mv rfl (by conv => lhs; whnf) rfl ?_
        refine mv rfl (by conv => lhs; whnf) rfl ?_
        refine ixa (f := rI_u8) ke22_9 rfl rfl rfl (by conv => lhs; whnf) (by conv => lhs; whnf) rfl rfl rfl ?_
        refine ldc rfl rfl (by conv => lhs; whnf) rfl rfl ?_
        refine rd (.int .i64 (IntKind.wrap .i64 e22_9)) rfl rfl rfl rfl rfl ?_
        refine rd (.int .i64 (IntKind.wrap .i64 ((IntKind.wrap .i64 (v3_1 * (137 : Int))) + (IntKind.wrap .i64 e22_9)))) rfl rfl rfl rfl rfl ?_
        refine rd (.int .i64 (IntKind.wrap .i64 ((IntKind.wrap .i64 ((IntKind.wrap .i64 (v3_1 * (137 : Int))) + (IntKind.wrap .i64 e22_9))) + (11 : Int)))) rfl rfl rfl rfl rfl ?_
        refine rd (.int .i64 (bits .and .i64 (IntKind.wrap .i64 ((IntKind.wrap .i64 ((IntKind.wrap .i64 (v3_1 * (137 : Int))) + (IntKind.wrap .i64 e22_9))) + (11 : Int))) (1073741823 : Int))) rfl rfl rfl rfl rfl ?_
        refine asg rfl (by conv => lhs; whnf) rfl ?_
        refine step_nil ?_
        exact ⟨rfl, rfl, rfl⟩
      clear s0 s3 s4 s15
      intro x hM
      obtain ⟨s0, s3, s4⟩ := hM
      show vcC _ _ _ _ _ _ _
      refine c_regl (fun x => x.sl 0 = .one (.c (.sl (t0_0.map rI_u8))) ∧ x.sl 3 = .one (.c (.int .i64 (bits .and .i64 (IntKind.wrap .i64 ((IntKind.wrap .i64 ((IntKind.wrap .i64 (v3_1 * (137 : Int))) + (IntKind.wrap .i64 e22_9))) + (11 : Int))) (1073741823 : Int)))) ∧ x.sl 4 = .one (.c (.int .i64 (IntKind.wrap .i64 (v4_2 + (1 : Int)))))) ?_ ?_
      · rw [← put_self s0, ← put_self s3, ← put_self s4]
        refine mv rfl (by conv => lhs; whnf) rfl ?_
        refine rd (.int .i64 (IntKind.wrap .i64 (v4_2 + (1 : Int)))) rfl rfl rfl rfl rfl ?_
        refine asg rfl (by conv => lhs; whnf) rfl ?_
        refine step_nil ?_
        exact ⟨rfl, rfl, rfl⟩
      clear s0 s3 s4
      intro x hM
      obtain ⟨s0, s3, s4⟩ := hM
      cases h
      show _ ∧ _
      exact ⟨rfl, s0, s3, s4⟩
    · refine c_cf (by rw [← q8]; exact s15) ?_
      refine c_exit ?_
      cases h
      show _ ∧ _
      exact ⟨nofun, rfl, s0, s3, s4, s15⟩
  clear hq
  clear s0 s3 s4
  intro e x hM
  obtain ⟨v3_3, v4_4, v15_5⟩ := q10
  obtain ⟨rfl, s0, s3, s4, s15⟩ := hM
  show vcC _ _ _ _ _ _ _
  refine c_reg (fun x => x.sl 2 = .one (.ptr 31 0) ∧ x.ob 31 = some [.sl (t0_0.map rI_u8), .int .i64 0, .int .i64 v3_3]) ?_ ?_
  · rw [← put_self s0, ← put_self s3, ← put_self s4, ← put_self s15]
    refine mv rfl (by conv => lhs; whnf) rfl ?_
    refine mv rfl (by conv => lhs; whnf) rfl ?_
    refine bld (rs := [.sl (t0_0.map rI_u8), .int .i64 0, .int .i64 v3_3]) rfl rfl rfl rfl rfl ?_
    refine bx rfl (by conv => lhs; whnf) rfl rfl ?_
    refine asg rfl (by conv => lhs; whnf) rfl ?_
    refine step_nil ?_
    exact ⟨rfl, rfl⟩
  clear s0 s3 s4 s15
  intro x hM
  obtain ⟨s2, o31⟩ := hM
  refine c_ret ?_
  cases h
  show _ ∧ _
  rw [← put_self s2, ← setO_self o31]
  exact ⟨.inr rfl, _, rfl, rfl, rfl, rfl⟩
def p104 (n : Nat) (o0_0 : List Int) (o0_1 : Int) (o0_2 : Int) : Option (Int × (List Int) × Int × Int) :=
  bif decide (o0_1 < (o0_0.length : Int)) then (ix o0_0 o0_1).bind fun e44_2 => some ((bits .and .i64 (IntKind.wrap .i64 ((bits .and .i64 (bits .xor .i64 (Int.fdiv (IntKind.wrap .i64 ((IntKind.wrap .i64 (o0_2 * (6364136223846793005 : Int))) + (1442695040888963407 : Int))) (2 ^ 33)) (Int.fdiv (IntKind.wrap .i64 ((IntKind.wrap .i64 (o0_2 * (6364136223846793005 : Int))) + (1442695040888963407 : Int))) (2 ^ 47))) (255 : Int)) + (IntKind.wrap .i64 e44_2))) (255 : Int)), o0_0, (IntKind.wrap .i64 (o0_1 + (1 : Int))), (IntKind.wrap .i64 ((IntKind.wrap .i64 (o0_2 * (6364136223846793005 : Int))) + (1442695040888963407 : Int)))) else some ((bits .and .i64 (bits .xor .i64 (Int.fdiv (IntKind.wrap .i64 ((IntKind.wrap .i64 (o0_2 * (6364136223846793005 : Int))) + (1442695040888963407 : Int))) (2 ^ 33)) (Int.fdiv (IntKind.wrap .i64 ((IntKind.wrap .i64 (o0_2 * (6364136223846793005 : Int))) + (1442695040888963407 : Int))) (2 ^ 47))) (255 : Int)), o0_0, o0_1, (IntKind.wrap .i64 ((IntKind.wrap .i64 (o0_2 * (6364136223846793005 : Int))) + (1442695040888963407 : Int))))
theorem big104 {n : Nat} {o0_0 : List Int} {o0_1 : Int} {o0_2 : Int} {r : Int × (List Int) × Int × Int} (h : p104 n o0_0 o0_1 o0_2 = some r) : Big Try.prog τ An (.fn 104 [.one (.ptr 1000000 0)] [[.sl (o0_0.map rI_u8), .int .i64 o0_1, .int .i64 o0_2]] (.one (.c (.int .i64 r.1))) none [[.sl (r.2.1.map rI_u8), .int .i64 r.2.2.1, .int .i64 r.2.2.2]] none) := by
  unfold p104 at h
  refine Big.of Try.func104 rfl rfl rfl rfl ?_
  have s0 : (DA [.one (.ptr 1000000 0)] [[.sl (o0_0.map rI_u8), .int .i64 o0_1, .int .i64 o0_2]]).sl 0 = .one (.ptr 1000000 0) := rfl
  have o1000000 : (DA [.one (.ptr 1000000 0)] [[.sl (o0_0.map rI_u8), .int .i64 o0_1, .int .i64 o0_2]]).ob 1000000 = some [.sl (o0_0.map rI_u8), .int .i64 o0_1, .int .i64 o0_2] := rfl
  generalize DA [.one (.ptr 1000000 0)] [[.sl (o0_0.map rI_u8), .int .i64 o0_1, .int .i64 o0_2]] = x at s0 o1000000 ⊢
  refine c_reg (fun x => x.sl 0 = .one (.ptr 1000000 0) ∧ x.ob 1000000 = some [.sl (o0_0.map rI_u8), .int .i64 o0_1, .int .i64 o0_2]) ?_ ?_
  · rw [← put_self s0, ← setO_self o1000000]
    refine asg rfl (by conv => lhs; whnf) rfl ?_
    refine step_nil ?_
    exact ⟨rfl, rfl⟩
  clear s0 o1000000
  intro x hM
  obtain ⟨s0, o1000000⟩ := hM
  refine c_reg (fun x => x.sl 0 = .one (.ptr 1000000 0) ∧ x.ob 1000000 = some [.sl (o0_0.map rI_u8), .int .i64 o0_1, .int .i64 (IntKind.wrap .i64 ((IntKind.wrap .i64 (o0_2 * (6364136223846793005 : Int))) + (1442695040888963407 : Int)))]) ?_ ?_
  · rw [← put_self s0, ← setO_self o1000000]
    refine mv rfl (by conv => lhs; whnf) rfl ?_
    refine mv rfl (by conv => lhs; whnf) rfl ?_
    refine nlc rfl (by conv => lhs; whnf) rfl rfl ?_
    refine fld rfl rfl rfl (by conv => lhs; whnf) rfl rfl ?_
    refine ldo rfl rfl rfl (by conv => lhs; whnf) rfl rfl rfl ?_
    refine rd (.int .i64 (IntKind.wrap .i64 (o0_2 * (6364136223846793005 : Int)))) rfl rfl rfl rfl rfl ?_
    refine rd (.int .i64 (IntKind.wrap .i64 ((IntKind.wrap .i64 (o0_2 * (6364136223846793005 : Int))) + (1442695040888963407 : Int)))) rfl rfl rfl rfl rfl ?_
    refine nlc rfl (by conv => lhs; whnf) rfl rfl ?_
    refine fld rfl rfl rfl (by conv => lhs; whnf) rfl rfl ?_
    refine sto rfl rfl (by conv => lhs; whnf) rfl rfl rfl rfl ?_
    refine step_nil ?_
    exact ⟨rfl, rfl⟩
  clear s0 o1000000
  intro x hM
  obtain ⟨s0, o1000000⟩ := hM
  refine c_reg (fun x => x.sl 0 = .one (.ptr 1000000 0) ∧ x.sl 3 = .one (.c (.int .i64 (bits .and .i64 (bits .xor .i64 (Int.fdiv (IntKind.wrap .i64 ((IntKind.wrap .i64 (o0_2 * (6364136223846793005 : Int))) + (1442695040888963407 : Int))) (2 ^ 33)) (Int.fdiv (IntKind.wrap .i64 ((IntKind.wrap .i64 (o0_2 * (6364136223846793005 : Int))) + (1442695040888963407 : Int))) (2 ^ 47))) (255 : Int)))) ∧ x.ob 1000000 = some [.sl (o0_0.map rI_u8), .int .i64 o0_1, .int .i64 (IntKind.wrap .i64 ((IntKind.wrap .i64 (o0_2 * (6364136223846793005 : Int))) + (1442695040888963407 : Int)))]) ?_ ?_
  · rw [← put_self s0, ← setO_self o1000000]
    refine mv rfl (by conv => lhs; whnf) rfl ?_
    refine nlc rfl (by conv => lhs; whnf) rfl rfl ?_
    refine fld rfl rfl rfl (by conv => lhs; whnf) rfl rfl ?_
    refine ldo rfl rfl rfl (by conv => lhs; whnf) rfl rfl rfl ?_
    refine rd (.int .i64 (Int.fdiv (IntKind.wrap .i64 ((IntKind.wrap .i64 (o0_2 * (6364136223846793005 : Int))) + (1442695040888963407 : Int))) (2 ^ 33))) rfl rfl rfl rfl rfl ?_
    refine mv rfl (by conv => lhs; whnf) rfl ?_
    refine nlc rfl (by conv => lhs; whnf) rfl rfl ?_
    refine fld rfl rfl rfl (by conv => lhs; whnf) rfl rfl ?_
    refine ldo rfl rfl rfl (by conv => lhs; whnf) rfl rfl rfl ?_
    refine rd (.int .i64 (Int.fdiv (IntKind.wrap .i64 ((IntKind.wrap .i64 (o0_2 * (6364136223846793005 : Int))) + (1442695040888963407 : Int))) (2 ^ 47))) rfl rfl rfl rfl rfl ?_
    refine rd (.int .i64 (bits .xor .i64 (Int.fdiv (IntKind.wrap .i64 ((IntKind.wrap .i64 (o0_2 * (6364136223846793005 : Int))) + (1442695040888963407 : Int))) (2 ^ 33)) (Int.fdiv (IntKind.wrap .i64 ((IntKind.wrap .i64 (o0_2 * (6364136223846793005 : Int))) + (1442695040888963407 : Int))) (2 ^ 47)))) rfl rfl rfl rfl rfl ?_
    refine rd (.int .i64 (bits .and .i64 (bits .xor .i64 (Int.fdiv (IntKind.wrap .i64 ((IntKind.wrap .i64 (o0_2 * (6364136223846793005 : Int))) + (1442695040888963407 : Int))) (2 ^ 33)) (Int.fdiv (IntKind.wrap .i64 ((IntKind.wrap .i64 (o0_2 * (6364136223846793005 : Int))) + (1442695040888963407 : Int))) (2 ^ 47))) (255 : Int))) rfl rfl rfl rfl rfl ?_
    refine asg rfl (by conv => lhs; whnf) rfl ?_
    refine step_nil ?_
    exact ⟨rfl, rfl, rfl⟩
  clear s0 o1000000
  intro x hM
  obtain ⟨s0, s3, o1000000⟩ := hM
  refine c_seq ?_
  refine c_reg (fun x => x.sl 0 = .one (.ptr 1000000 0) ∧ x.sl 3 = .one (.c (.int .i64 (bits .and .i64 (bits .xor .i64 (Int.fdiv (IntKind.wrap .i64 ((IntKind.wrap .i64 (o0_2 * (6364136223846793005 : Int))) + (1442695040888963407 : Int))) (2 ^ 33)) (Int.fdiv (IntKind.wrap .i64 ((IntKind.wrap .i64 (o0_2 * (6364136223846793005 : Int))) + (1442695040888963407 : Int))) (2 ^ 47))) (255 : Int)))) ∧ x.sl 34 = .one (.c (.bool (decide (o0_1 < (o0_0.length : Int))))) ∧ x.ob 1000000 = some [.sl (o0_0.map rI_u8), .int .i64 o0_1, .int .i64 (IntKind.wrap .i64 ((IntKind.wrap .i64 (o0_2 * (6364136223846793005 : Int))) + (1442695040888963407 : Int)))]) ?_ ?_
  · rw [← put_self s0, ← put_self s3, ← setO_self o1000000]
    refine mv rfl (by conv => lhs; whnf) rfl ?_
    refine nlc rfl (by conv => lhs; whnf) rfl rfl ?_
    refine fld rfl rfl rfl (by conv => lhs; whnf) rfl rfl ?_
    refine ldo rfl rfl rfl (by conv => lhs; whnf) rfl rfl rfl ?_
    refine mv rfl (by conv => lhs; whnf) rfl ?_
    refine nlc rfl (by conv => lhs; whnf) rfl rfl ?_
    refine fld rfl rfl rfl (by conv => lhs; whnf) rfl rfl ?_
    refine ldo rfl rfl rfl (by conv => lhs; whnf) rfl rfl rfl ?_
    refine ln rfl rfl (by conv => lhs; whnf) rfl ?_
    refine rd (.bool (decide (o0_1 < (o0_0.length : Int)))) rfl rfl rfl rfl rfl ?_
    refine step_nil ?_
    exact ⟨rfl, rfl, rfl, rfl⟩
  clear s0 s3 o1000000
  intro x hM
  obtain ⟨s0, s3, s34, o1000000⟩ := hM
  refine bif_cases h (fun q1 h => ?_) (fun q1 h => ?_)
  · refine c_ct (by rw [← q1]; exact s34) ?_
    obtain ⟨e44_2, ke44_2, h⟩ := bind_some h
    refine c_reg (fun x => x.sl 0 = .one (.ptr 1000000 0) ∧ x.sl 3 = .one (.c (.int .i64 (bits .and .i64 (IntKind.wrap .i64 ((bits .and .i64 (bits .xor .i64 (Int.fdiv (IntKind.wrap .i64 ((IntKind.wrap .i64 (o0_2 * (6364136223846793005 : Int))) + (1442695040888963407 : Int))) (2 ^ 33)) (Int.fdiv (IntKind.wrap .i64 ((IntKind.wrap .i64 (o0_2 * (6364136223846793005 : Int))) + (1442695040888963407 : Int))) (2 ^ 47))) (255 : Int)) + (IntKind.wrap .i64 e44_2))) (255 : Int)))) ∧ x.ob 1000000 = some [.sl (o0_0.map rI_u8), .int .i64 o0_1, .int .i64 (IntKind.wrap .i64 ((IntKind.wrap .i64 (o0_2 * (6364136223846793005 : Int))) + (1442695040888963407 : Int)))]) ?_ ?_
    · rw [← put_self s0, ← put_self s3, ← put_self s34, ← setO_self o1000000]
      refine mv rfl (by conv => lhs; whnf) rfl ?_
      refine mv rfl (by conv => lhs; whnf) rfl ?_
      refine nlc rfl (by conv => lhs; whnf) rfl rfl ?_
      refine fld rfl rfl rfl (by conv => lhs; whnf) rfl rfl ?_
      refine ldo rfl rfl rfl (by conv => lhs; whnf) rfl rfl rfl ?_
      refine mv rfl (by conv => lhs; whnf) rfl ?_
      refine nlc rfl (by conv => lhs; whnf) rfl rfl ?_
      refine fld rfl rfl rfl (by conv => lhs; whnf) rfl rfl ?_
      refine ldo rfl rfl rfl (by conv => lhs; whnf) rfl rfl rfl ?_
      refine ixa (f := rI_u8) ke44_2 rfl rfl rfl (by conv => lhs; whnf) (by conv => lhs; whnf) rfl rfl rfl ?_
      refine ldc rfl rfl (by conv => lhs; whnf) rfl rfl ?_
      refine rd (.int .i64 (IntKind.wrap .i64 e44_2)) rfl rfl rfl rfl rfl ?_
      refine rd (.int .i64 (IntKind.wrap .i64 ((bits .and .i64 (bits .xor .i64 (Int.fdiv (IntKind.wrap .i64 ((IntKind.wrap .i64 (o0_2 * (6364136223846793005 : Int))) + (1442695040888963407 : Int))) (2 ^ 33)) (Int.fdiv (IntKind.wrap .i64 ((IntKind.wrap .i64 (o0_2 * (6364136223846793005 : Int))) + (1442695040888963407 : Int))) (2 ^ 47))) (255 : Int)) + (IntKind.wrap .i64 e44_2)))) rfl rfl rfl rfl rfl ?_
      refine rd (.int .i64 (bits .and .i64 (IntKind.wrap .i64 ((bits .and .i64 (bits .xor .i64 (Int.fdiv (IntKind.wrap .i64 ((IntKind.wrap .i64 (o0_2 * (6364136223846793005 : Int))) + (1442695040888963407 : Int))) (2 ^ 33)) (Int.fdiv (IntKind.wrap .i64 ((IntKind.wrap .i64 (o0_2 * (6364136223846793005 : Int))) + (1442695040888963407 : Int))) (2 ^ 47))) (255 : Int)) + (IntKind.wrap .i64 e44_2))) (255 : Int))) rfl rfl rfl rfl rfl ?_
      refine asg rfl (by conv => lhs; whnf) rfl ?_
      refine step_nil ?_
      exact ⟨rfl, rfl, rfl⟩
    clear s0 s3 s34 o1000000
    intro x hM
    obtain ⟨s0, s3, o1000000⟩ := hM
    refine c_regl (fun x => x.sl 3 = .one (.c (.int .i64 (bits .and .i64 (IntKind.wrap .i64 ((bits .and .i64 (bits .xor .i64 (Int.fdiv (IntKind.wrap .i64 ((IntKind.wrap .i64 (o0_2 * (6364136223846793005 : Int))) + (1442695040888963407 : Int))) (2 ^ 33)) (Int.fdiv (IntKind.wrap .i64 ((IntKind.wrap .i64 (o0_2 * (6364136223846793005 : Int))) + (1442695040888963407 : Int))) (2 ^ 47))) (255 : Int)) + (IntKind.wrap .i64 e44_2))) (255 : Int)))) ∧ x.ob 1000000 = some [.sl (o0_0.map rI_u8), .int .i64 (IntKind.wrap .i64 (o0_1 + (1 : Int))), .int .i64 (IntKind.wrap .i64 ((IntKind.wrap .i64 (o0_2 * (6364136223846793005 : Int))) + (1442695040888963407 : Int)))]) ?_ ?_
    · rw [← put_self s0, ← put_self s3, ← setO_self o1000000]
      refine mv rfl (by conv => lhs; whnf) rfl ?_
      refine mv rfl (by conv => lhs; whnf) rfl ?_
      refine nlc rfl (by conv => lhs; whnf) rfl rfl ?_
      refine fld rfl rfl rfl (by conv => lhs; whnf) rfl rfl ?_
      refine ldo rfl rfl rfl (by conv => lhs; whnf) rfl rfl rfl ?_
      refine rd (.int .i64 (IntKind.wrap .i64 (o0_1 + (1 : Int)))) rfl rfl rfl rfl rfl ?_
      refine nlc rfl (by conv => lhs; whnf) rfl rfl ?_
      refine fld rfl rfl rfl (by conv => lhs; whnf) rfl rfl ?_
      refine sto rfl rfl (by conv => lhs; whnf) rfl rfl rfl rfl ?_
      refine step_nil ?_
      exact ⟨rfl, rfl⟩
    clear s0 s3 o1000000
    intro x hM
    obtain ⟨s3, o1000000⟩ := hM
    show vcC _ _ _ _ _ _ _
    refine c_reg (fun x => x.sl 2 = .one (.c (.int .i64 (bits .and .i64 (IntKind.wrap .i64 ((bits .and .i64 (bits .xor .i64 (Int.fdiv (IntKind.wrap .i64 ((IntKind.wrap .i64 (o0_2 * (6364136223846793005 : Int))) + (1442695040888963407 : Int))) (2 ^ 33)) (Int.fdiv (IntKind.wrap .i64 ((IntKind.wrap .i64 (o0_2 * (6364136223846793005 : Int))) + (1442695040888963407 : Int))) (2 ^ 47))) (255 : Int)) + (IntKind.wrap .i64 e44_2))) (255 : Int)))) ∧ x.ob 1000000 = some [.sl (o0_0.map rI_u8), .int .i64 (IntKind.wrap .i64 (o0_1 + (1 : Int))), .int .i64 (IntKind.wrap .i64 ((IntKind.wrap .i64 (o0_2 * (6364136223846793005 : Int))) + (1442695040888963407 : Int)))]) ?_ ?_
    · rw [← put_self s3, ← setO_self o1000000]
      refine mv rfl (by conv => lhs; whnf) rfl ?_
      refine asg rfl (by conv => lhs; whnf) rfl ?_
      refine step_nil ?_
      exact ⟨rfl, rfl⟩
    clear s3 o1000000
    intro x hM
    obtain ⟨s2, o1000000⟩ := hM
    refine c_ret ?_
    cases h
    show _ ∧ _
    rw [← put_self s2, ← setO_self o1000000]
    exact ⟨.inr rfl, _, rfl, rfl, rfl, rfl⟩
  · refine c_cf (by rw [← q1]; exact s34) ?_
    refine c_skip ?_
    show vcC _ _ _ _ _ _ _
    refine c_reg (fun x => x.sl 2 = .one (.c (.int .i64 (bits .and .i64 (bits .xor .i64 (Int.fdiv (IntKind.wrap .i64 ((IntKind.wrap .i64 (o0_2 * (6364136223846793005 : Int))) + (1442695040888963407 : Int))) (2 ^ 33)) (Int.fdiv (IntKind.wrap .i64 ((IntKind.wrap .i64 (o0_2 * (6364136223846793005 : Int))) + (1442695040888963407 : Int))) (2 ^ 47))) (255 : Int)))) ∧ x.ob 1000000 = some [.sl (o0_0.map rI_u8), .int .i64 o0_1, .int .i64 (IntKind.wrap .i64 ((IntKind.wrap .i64 (o0_2 * (6364136223846793005 : Int))) + (1442695040888963407 : Int)))]) ?_ ?_
    · rw [← put_self s0, ← put_self s3, ← put_self s34, ← setO_self o1000000]
      refine mv rfl (by conv => lhs; whnf) rfl ?_
      refine asg rfl (by conv => lhs; whnf) rfl ?_
      refine step_nil ?_
      exact ⟨rfl, rfl⟩
    clear s0 s3 s34 o1000000
    intro x hM
    obtain ⟨s2, o1000000⟩ := hM
    refine c_ret ?_
    cases h
    show _ ∧ _
    rw [← put_self s2, ← setO_self o1000000]
    exact ⟨.inr rfl, _, rfl, rfl, rfl, rfl⟩
def p59 (n : Nat) (t1_0 : Int) (o0_0 : List Int) (o0_1 : Int) (o0_2 : Int) : Option (Int × (List Int) × Int × Int) :=
  bif decide (t1_0 ≤ (0 : Int)) then some ((0 : Int), o0_0, o0_1, o0_2) else bif decide (t1_0 ≤ (256 : Int)) then (p104 n o0_0 o0_1 o0_2).bind fun c13_3 => (ck (!decide (t1_0 = 0))).bind fun _ => some ((Int.tmod c13_3.1 t1_0), c13_3.2.1, c13_3.2.2.1, c13_3.2.2.2) else (p104 n o0_0 o0_1 o0_2).bind fun c17_5 => (p104 n c17_5.2.1 c17_5.2.2.1 c17_5.2.2.2).bind fun c19_6 => (p104 n c19_6.2.1 c19_6.2.2.1 c19_6.2.2.2).bind fun c21_7 => (ck (!decide (t1_0 = 0))).bind fun _ => some ((Int.tmod (IntKind.wrap .i64 ((IntKind.wrap .i64 ((IntKind.wrap .i64 (c17_5.1 * (65536 : Int))) + (IntKind.wrap .i64 (c19_6.1 * (256 : Int))))) + c21_7.1)) t1_0), c21_7.2.1, c21_7.2.2.1, c21_7.2.2.2)
theorem big59 {n : Nat} {t1_0 : Int} {o0_0 : List Int} {o0_1 : Int} {o0_2 : Int} {r : Int × (List Int) × Int × Int} (h : p59 n t1_0 o0_0 o0_1 o0_2 = some r) : Big Try.prog τ An (.fn 59 [.one (.ptr 1000000 0), .one (.c (.int .i64 t1_0))] [[.sl (o0_0.map rI_u8), .int .i64 o0_1, .int .i64 o0_2]] (.one (.c (.int .i64 r.1))) none [[.sl (r.2.1.map rI_u8), .int .i64 r.2.2.1, .int .i64 r.2.2.2]] none) := by
  unfold p59 at h
  refine Big.of Try.func59 rfl rfl rfl rfl ?_
  have s0 : (DA [.one (.ptr 1000000 0), .one (.c (.int .i64 t1_0))] [[.sl (o0_0.map rI_u8), .int .i64 o0_1, .int .i64 o0_2]]).sl 0 = .one (.ptr 1000000 0) := rfl
  have s1 : (DA [.one (.ptr 1000000 0), .one (.c (.int .i64 t1_0))] [[.sl (o0_0.map rI_u8), .int .i64 o0_1, .int .i64 o0_2]]).sl 1 = .one (.c (.int .i64 t1_0)) := rfl
  have o1000000 : (DA [.one (.ptr 1000000 0), .one (.c (.int .i64 t1_0))] [[.sl (o0_0.map rI_u8), .int .i64 o0_1, .int .i64 o0_2]]).ob 1000000 = some [.sl (o0_0.map rI_u8), .int .i64 o0_1, .int .i64 o0_2] := rfl
  generalize DA [.one (.ptr 1000000 0), .one (.c (.int .i64 t1_0))] [[.sl (o0_0.map rI_u8), .int .i64 o0_1, .int .i64 o0_2]] = x at s0 s1 o1000000 ⊢
  refine c_reg (fun x => x.sl 0 = .one (.ptr 1000000 0) ∧ x.sl 1 = .one (.c (.int .i64 t1_0)) ∧ x.ob 1000000 = some [.sl (o0_0.map rI_u8), .int .i64 o0_1, .int .i64 o0_2]) ?_ ?_
  · rw [← put_self s0, ← put_self s1, ← setO_self o1000000]
    refine asg rfl (by conv => lhs; whnf) rfl ?_
    refine step_nil ?_
    exact ⟨rfl, rfl, rfl⟩
  clear s0 s1 o1000000
  intro x hM
  obtain ⟨s0, s1, o1000000⟩ := hM
  refine c_seq ?_
  refine c_reg (fun x => x.sl 0 = .one (.ptr 1000000 0) ∧ x.sl 1 = .one (.c (.int .i64 t1_0)) ∧ x.sl 9 = .one (.c (.bool (decide (t1_0 ≤ (0 : Int))))) ∧ x.ob 1000000 = some [.sl (o0_0.map rI_u8), .int .i64 o0_1, .int .i64 o0_2]) ?_ ?_
  · rw [← put_self s0, ← put_self s1, ← setO_self o1000000]
    refine mv rfl (by conv => lhs; whnf) rfl ?_
    refine rd (.bool (decide (t1_0 ≤ (0 : Int)))) rfl rfl rfl rfl rfl ?_
    refine step_nil ?_
    exact ⟨rfl, rfl, rfl, rfl⟩
  clear s0 s1 o1000000
  intro x hM
  obtain ⟨s0, s1, s9, o1000000⟩ := hM
  refine bif_cases h (fun q1 h => ?_) (fun q1 h => ?_)
  · refine c_ct (by rw [← q1]; exact s9) ?_
    refine c_reg (fun x => x.sl 4 = .one (.c (.int .i64 0)) ∧ x.ob 1000000 = some [.sl (o0_0.map rI_u8), .int .i64 o0_1, .int .i64 o0_2]) ?_ ?_
    · rw [← put_self s0, ← put_self s1, ← put_self s9, ← setO_self o1000000]
      refine asg rfl (by conv => lhs; whnf) rfl ?_
      refine step_nil ?_
      exact ⟨rfl, rfl⟩
    clear s0 s1 s9 o1000000
    intro x hM
    obtain ⟨s4, o1000000⟩ := hM
    refine c_ret ?_
    cases h
    show _ ∧ _
    rw [← put_self s4, ← setO_self o1000000]
    exact ⟨.inr rfl, _, rfl, rfl, rfl, rfl⟩
  · refine c_cf (by rw [← q1]; exact s9) ?_
    refine c_skip ?_
    show vcC _ _ _ _ _ _ _
    refine c_seq ?_
    refine c_reg (fun x => x.sl 0 = .one (.ptr 1000000 0) ∧ x.sl 1 = .one (.c (.int .i64 t1_0)) ∧ x.sl 11 = .one (.c (.bool (decide (t1_0 ≤ (256 : Int))))) ∧ x.ob 1000000 = some [.sl (o0_0.map rI_u8), .int .i64 o0_1, .int .i64 o0_2]) ?_ ?_
    · rw [← put_self s0, ← put_self s1, ← put_self s9, ← setO_self o1000000]
      refine mv rfl (by conv => lhs; whnf) rfl ?_
      refine rd (.bool (decide (t1_0 ≤ (256 : Int)))) rfl rfl rfl rfl rfl ?_
      refine step_nil ?_
      exact ⟨rfl, rfl, rfl, rfl⟩
    clear s0 s1 s9 o1000000
    intro x hM
    obtain ⟨s0, s1, s11, o1000000⟩ := hM
    refine bif_cases h (fun q2 h => ?_) (fun q2 h => ?_)
    · refine c_ct (by rw [← q2]; exact s11) ?_
      obtain ⟨c13_3, kc13_3, h⟩ := bind_some h
      obtain ⟨_, k15_3, h⟩ := bind_some h
      have k15_3 := ck_of k15_3
      refine c_reg (fun x => x.sl 4 = .one (.c (.int .i64 (Int.tmod c13_3.1 t1_0))) ∧ x.ob 1000000 = some [.sl (c13_3.2.1.map rI_u8), .int .i64 c13_3.2.2.1, .int .i64 c13_3.2.2.2]) ?_ ?_
      · rw [← put_self s0, ← put_self s1, ← put_self s11, ← setO_self o1000000]
        refine mv rfl (by conv => lhs; whnf) rfl ?_
        refine cl1 (v' := .one (.c (.int .i64 c13_3.1))) (big104 kc13_3) rfl rfl rfl rfl rfl rfl rfl rfl rfl rfl ?_
        refine mv rfl (by conv => lhs; whnf) rfl ?_
        refine rd (.int .i64 (Int.tmod c13_3.1 t1_0)) rfl rfl rfl (rd_rem k15_3 (by conv => lhs; whnf) (by conv => lhs; whnf)) rfl ?_
        refine asg rfl (by conv => lhs; whnf) rfl ?_
        refine step_nil ?_
        exact ⟨rfl, rfl⟩
      clear s0 s1 s11 o1000000
      intro x hM
      obtain ⟨s4, o1000000⟩ := hM
      refine c_ret ?_
      cases h
      show _ ∧ _
      rw [← put_self s4, ← setO_self o1000000]
      exact ⟨.inr rfl, _, rfl, rfl, rfl, rfl⟩
    · refine c_cf (by rw [← q2]; exact s11) ?_
      refine c_skip ?_
      show vcC _ _ _ _ _ _ _
      obtain ⟨c17_5, kc17_5, h⟩ := bind_some h
      refine c_reg (fun x => x.sl 0 = .one (.ptr 1000000 0) ∧ x.sl 1 = .one (.c (.int .i64 t1_0)) ∧ x.sl 5 = .one (.c (.int .i64 c17_5.1)) ∧ x.ob 1000000 = some [.sl (c17_5.2.1.map rI_u8), .int .i64 c17_5.2.2.1, .int .i64 c17_5.2.2.2]) ?_ ?_
      · rw [← put_self s0, ← put_self s1, ← put_self s11, ← setO_self o1000000]
        refine mv rfl (by conv => lhs; whnf) rfl ?_
        refine cl1 (v' := .one (.c (.int .i64 c17_5.1))) (big104 kc17_5) rfl rfl rfl rfl rfl rfl rfl rfl rfl rfl ?_
        refine asg rfl (by conv => lhs; whnf) rfl ?_
        refine step_nil ?_
        exact ⟨rfl, rfl, rfl, rfl⟩
      clear s0 s1 s11 o1000000
      intro x hM
      obtain ⟨s0, s1, s5, o1000000⟩ := hM
      obtain ⟨c19_6, kc19_6, h⟩ := bind_some h
      refine c_reg (fun x => x.sl 0 = .one (.ptr 1000000 0) ∧ x.sl 1 = .one (.c (.int .i64 t1_0)) ∧ x.sl 5 = .one (.c (.int .i64 c17_5.1)) ∧ x.sl 6 = .one (.c (.int .i64 c19_6.1)) ∧ x.ob 1000000 = some [.sl (c19_6.2.1.map rI_u8), .int .i64 c19_6.2.2.1, .int .i64 c19_6.2.2.2]) ?_ ?_
      · rw [← put_self s0, ← put_self s1, ← put_self s5, ← setO_self o1000000]
        refine mv rfl (by conv => lhs; whnf) rfl ?_
        refine cl1 (v' := .one (.c (.int .i64 c19_6.1))) (big104 kc19_6) rfl rfl rfl rfl rfl rfl rfl rfl rfl rfl ?_
        refine asg rfl (by conv => lhs; whnf) rfl ?_
        refine step_nil ?_
        exact ⟨rfl, rfl, rfl, rfl, rfl⟩
      clear s0 s1 s5 o1000000
      intro x hM
      obtain ⟨s0, s1, s5, s6, o1000000⟩ := hM
      obtain ⟨c21_7, kc21_7, h⟩ := bind_some h
      refine c_reg (fun x => x.sl 1 = .one (.c (.int .i64 t1_0)) ∧ x.sl 5 = .one (.c (.int .i64 c17_5.1)) ∧ x.sl 6 = .one (.c (.int .i64 c19_6.1)) ∧ x.sl 7 = .one (.c (.int .i64 c21_7.1)) ∧ x.ob 1000000 = some [.sl (c21_7.2.1.map rI_u8), .int .i64 c21_7.2.2.1, .int .i64 c21_7.2.2.2]) ?_ ?_
      · rw [← put_self s0, ← put_self s1, ← put_self s5, ← put_self s6, ← setO_self o1000000]
        refine mv rfl (by conv => lhs; whnf) rfl ?_
        refine cl1 (v' := .one (.c (.int .i64 c21_7.1))) (big104 kc21_7) rfl rfl rfl rfl rfl rfl rfl rfl rfl rfl ?_
        refine asg rfl (by conv => lhs; whnf) rfl ?_
        refine step_nil ?_
        exact ⟨rfl, rfl, rfl, rfl, rfl⟩
      clear s0 s1 s5 s6 o1000000
      intro x hM
      obtain ⟨s1, s5, s6, s7, o1000000⟩ := hM
      obtain ⟨_, k30_7, h⟩ := bind_some h
      have k30_7 := ck_of k30_7
      refine c_reg (fun x => x.sl 4 = .one (.c (.int .i64 (Int.tmod (IntKind.wrap .i64 ((IntKind.wrap .i64 ((IntKind.wrap .i64 (c17_5.1 * (65536 : Int))) + (IntKind.wrap .i64 (c19_6.1 * (256 : Int))))) + c21_7.1)) t1_0))) ∧ x.ob 1000000 = some [.sl (c21_7.2.1.map rI_u8), .int .i64 c21_7.2.2.1, .int .i64 c21_7.2.2.2]) ?_ ?_
      · rw [← put_self s1, ← put_self s5, ← put_self s6, ← put_self s7, ← setO_self o1000000]
        refine mv rfl (by conv => lhs; whnf) rfl ?_
        refine rd (.int .i64 (IntKind.wrap .i64 (c17_5.1 * (65536 : Int)))) rfl rfl rfl rfl rfl ?_
        refine mv rfl (by conv => lhs; whnf) rfl ?_
        refine rd (.int .i64 (IntKind.wrap .i64 (c19_6.1 * (256 : Int)))) rfl rfl rfl rfl rfl ?_
        refine rd (.int .i64 (IntKind.wrap .i64 ((IntKind.wrap .i64 (c17_5.1 * (65536 : Int))) + (IntKind.wrap .i64 (c19_6.1 * (256 : Int)))))) rfl rfl rfl rfl rfl ?_
        refine mv rfl (by conv => lhs; whnf) rfl ?_
        refine rd (.int .i64 (IntKind.wrap .i64 ((IntKind.wrap .i64 ((IntKind.wrap .i64 (c17_5.1 * (65536 : Int))) + (IntKind.wrap .i64 (c19_6.1 * (256 : Int))))) + c21_7.1))) rfl rfl rfl rfl rfl ?_
        refine mv rfl (by conv => lhs; whnf) rfl ?_
        refine rd (.int .i64 (Int.tmod (IntKind.wrap .i64 ((IntKind.wrap .i64 ((IntKind.wrap .i64 (c17_5.1 * (65536 : Int))) + (IntKind.wrap .i64 (c19_6.1 * (256 : Int))))) + c21_7.1)) t1_0)) rfl rfl rfl (rd_rem k30_7 (by conv => lhs; whnf) (by conv => lhs; whnf)) rfl ?_
        refine asg rfl (by conv => lhs; whnf) rfl ?_
        refine step_nil ?_
        exact ⟨rfl, rfl⟩
      clear s1 s5 s6 s7 o1000000
      intro x hM
      obtain ⟨s4, o1000000⟩ := hM
      refine c_ret ?_
      cases h
      show _ ∧ _
      rw [← put_self s4, ← setO_self o1000000]
      exact ⟨.inr rfl, _, rfl, rfl, rfl, rfl⟩
def p60 (n : Nat) (t1_0 : List Int) (o0_0 : List Int) (o0_1 : Int) (o0_2 : Int) : Option (Int × (List Int) × Int × Int) :=
  (p59 n (t1_0.length : Int) o0_0 o0_1 o0_2).bind fun c9_1 => (ix t1_0 c9_1.1).bind fun e10_2 => some (e10_2, c9_1.2.1, c9_1.2.2.1, c9_1.2.2.2)
theorem big60 {n : Nat} {t1_0 : List Int} {o0_0 : List Int} {o0_1 : Int} {o0_2 : Int} {r : Int × (List Int) × Int × Int} (h : p60 n t1_0 o0_0 o0_1 o0_2 = some r) : Big Try.prog τ An (.fn 60 [.one (.ptr 1000000 0), .one (.c (.sl (t1_0.map rI_i64)))] [[.sl (o0_0.map rI_u8), .int .i64 o0_1, .int .i64 o0_2]] (.one (.c (.int .i64 r.1))) none [[.sl (r.2.1.map rI_u8), .int .i64 r.2.2.1, .int .i64 r.2.2.2]] none) := by
  unfold p60 at h
  refine Big.of Try.func60 rfl rfl rfl rfl ?_
  have s0 : (DA [.one (.ptr 1000000 0), .one (.c (.sl (t1_0.map rI_i64)))] [[.sl (o0_0.map rI_u8), .int .i64 o0_1, .int .i64 o0_2]]).sl 0 = .one (.ptr 1000000 0) := rfl
  have s1 : (DA [.one (.ptr 1000000 0), .one (.c (.sl (t1_0.map rI_i64)))] [[.sl (o0_0.map rI_u8), .int .i64 o0_1, .int .i64 o0_2]]).sl 1 = .one (.c (.sl (t1_0.map rI_i64))) := rfl
  have o1000000 : (DA [.one (.ptr 1000000 0), .one (.c (.sl (t1_0.map rI_i64)))] [[.sl (o0_0.map rI_u8), .int .i64 o0_1, .int .i64 o0_2]]).ob 1000000 = some [.sl (o0_0.map rI_u8), .int .i64 o0_1, .int .i64 o0_2] := rfl
  generalize DA [.one (.ptr 1000000 0), .one (.c (.sl (t1_0.map rI_i64)))] [[.sl (o0_0.map rI_u8), .int .i64 o0_1, .int .i64 o0_2]] = x at s0 s1 o1000000 ⊢
  refine c_reg (fun x => x.sl 0 = .one (.ptr 1000000 0) ∧ x.sl 1 = .one (.c (.sl (t1_0.map rI_i64))) ∧ x.ob 1000000 = some [.sl (o0_0.map rI_u8), .int .i64 o0_1, .int .i64 o0_2]) ?_ ?_
  · rw [← put_self s0, ← put_self s1, ← setO_self o1000000]
    refine asg rfl (by conv => lhs; whnf) rfl ?_
    refine step_nil ?_
    exact ⟨rfl, rfl, rfl⟩
  clear s0 s1 o1000000
  intro x hM
  obtain ⟨s0, s1, o1000000⟩ := hM
  obtain ⟨c9_1, kc9_1, h⟩ := bind_some h
  obtain ⟨e10_2, ke10_2, h⟩ := bind_some h
  refine c_reg (fun x => x.sl 4 = .one (.c (.int .i64 e10_2)) ∧ x.ob 1000000 = some [.sl (c9_1.2.1.map rI_u8), .int .i64 c9_1.2.2.1, .int .i64 c9_1.2.2.2]) ?_ ?_
  · rw [← put_self s0, ← put_self s1, ← setO_self o1000000]
    refine mv rfl (by conv => lhs; whnf) rfl ?_
    refine mv rfl (by conv => lhs; whnf) rfl ?_
    refine mv rfl (by conv => lhs; whnf) rfl ?_
    refine ln rfl rfl (by conv => lhs; whnf) rfl ?_
    refine cl1 (v' := .one (.c (.int .i64 c9_1.1))) (big59 kc9_1) rfl rfl rfl rfl rfl rfl rfl rfl rfl rfl ?_
    refine ixa (f := rI_i64) ke10_2 rfl rfl rfl (by conv => lhs; whnf) (by conv => lhs; whnf) rfl rfl rfl ?_
    refine ldc rfl rfl (by conv => lhs; whnf) rfl rfl ?_
    refine asg rfl (by conv => lhs; whnf) rfl ?_
    refine step_nil ?_
    exact ⟨rfl, rfl⟩
  clear s0 s1 o1000000
  intro x hM
  obtain ⟨s4, o1000000⟩ := hM
  refine c_ret ?_
  cases h
  show _ ∧ _
  rw [← put_self s4, ← setO_self o1000000]
  exact ⟨.inr rfl, _, rfl, rfl, rfl, rfl⟩
def p19 (n : Nat) (t0_0 : List Int) : Option (Int × Int × Int) :=
  (p58 n t0_0).bind fun c7_1 => (p59 n (5 : Int) c7_1.1 c7_1.2.1 c7_1.2.2).bind fun c9_2 => (p60 n ([(3 : Int), (1 : Int), (5 : Int), (0 : Int), ((-1) : Int)] : List Int) c9_2.2.1 c9_2.2.2.1 c9_2.2.2.2).bind fun c12_3 => (p60 n ([(0 : Int), (1 : Int), (2 : Int), (4 : Int), ((-1) : Int)] : List Int) c12_3.2.1 c12_3.2.2.1 c12_3.2.2.2).bind fun c15_4 => some (c9_2.1, c12_3.1, c15_4.1)
theorem big19 {n : Nat} {t0_0 : List Int} {r : Int × Int × Int} (h : p19 n t0_0 = some r) : Big Try.prog τ An (.fn 19 [.one (.c (.sl (t0_0.map rI_u8)))] [] (.tup [.c (.int .i64 r.1), .c (.int .i64 r.2.1), .c (.int .i64 r.2.2)]) none [] none) := by
  unfold p19 at h
  refine Big.of Try.func19 rfl rfl rfl rfl ?_
  have s0 : (DA [.one (.c (.sl (t0_0.map rI_u8)))] []).sl 0 = .one (.c (.sl (t0_0.map rI_u8))) := rfl
  generalize DA [.one (.c (.sl (t0_0.map rI_u8)))] [] = x at s0 ⊢
  refine c_reg (fun x => x.sl 0 = .one (.c (.sl (t0_0.map rI_u8)))) ?_ ?_
  · rw [← put_self s0]
    refine asg rfl (by conv => lhs; whnf) rfl ?_
    refine asg rfl (by conv => lhs; whnf) rfl ?_
    refine asg rfl (by conv => lhs; whnf) rfl ?_
    refine step_nil ?_
    exact rfl
  clear s0
  intro x s0
  obtain ⟨c7_1, kc7_1, h⟩ := bind_some h
  refine c_reg (fun x => x.sl 5 = .one (.ptr 7 0) ∧ x.ob 7 = some [.sl (c7_1.1.map rI_u8), .int .i64 c7_1.2.1, .int .i64 c7_1.2.2]) ?_ ?_
  · rw [← put_self s0]
    refine mv rfl (by conv => lhs; whnf) rfl ?_
    refine cln (big58 kc7_1) rfl rfl rfl rfl rfl rfl rfl rfl rfl ?_
    refine asg rfl (by conv => lhs; whnf) rfl ?_
    refine step_nil ?_
    exact ⟨rfl, rfl⟩
  clear s0
  intro x hM
  obtain ⟨s5, o7⟩ := hM
  obtain ⟨c9_2, kc9_2, h⟩ := bind_some h
  obtain ⟨c12_3, kc12_3, h⟩ := bind_some h
  obtain ⟨c15_4, kc15_4, h⟩ := bind_some h
  refine c_reg (fun x => x.sl 2 = .one (.c (.int .i64 c9_2.1)) ∧ x.sl 3 = .one (.c (.int .i64 c12_3.1)) ∧ x.sl 4 = .one (.c (.int .i64 c15_4.1)) ∧ x.ob 7 = some [.sl (c15_4.2.1.map rI_u8), .int .i64 c15_4.2.2.1, .int .i64 c15_4.2.2.2]) ?_ ?_
  · rw [← put_self s5, ← setO_self o7]
    refine mv rfl (by conv => lhs; whnf) rfl ?_
    refine cl1 (v' := .one (.c (.int .i64 c9_2.1))) (big59 kc9_2) rfl rfl rfl rfl rfl rfl rfl rfl rfl rfl ?_
    refine mv rfl (by conv => lhs; whnf) rfl ?_
    refine lit (L := ([(3 : Int), (1 : Int), (5 : Int), (0 : Int), ((-1) : Int)] : List Int)) (f := rI_i64) rfl rfl rfl rfl rfl rfl rfl ?_
    refine cl1 (v' := .one (.c (.int .i64 c12_3.1))) (big60 kc12_3) rfl rfl rfl rfl rfl rfl rfl rfl rfl rfl ?_
    refine mv rfl (by conv => lhs; whnf) rfl ?_
    refine lit (L := ([(0 : Int), (1 : Int), (2 : Int), (4 : Int), ((-1) : Int)] : List Int)) (f := rI_i64) rfl rfl rfl rfl rfl rfl rfl ?_
    refine cl1 (v' := .one (.c (.int .i64 c15_4.1))) (big60 kc15_4) rfl rfl rfl rfl rfl rfl rfl rfl rfl rfl ?_
    refine asg rfl (by conv => lhs; whnf) rfl ?_
    refine asg rfl (by conv => lhs; whnf) rfl ?_
    refine asg rfl (by conv => lhs; whnf) rfl ?_
    refine step_nil ?_
    exact ⟨rfl, rfl, rfl, rfl⟩
  clear s5 o7
  intro x hM
  obtain ⟨s2, s3, s4, o7⟩ := hM
  refine c_ret ?_
  cases h
  show _ ∧ _
  rw [← put_self s2, ← put_self s3, ← put_self s4]
  exact ⟨.inr rfl, _, rfl, rfl, rfl, rfl⟩
def p4_b1 (n : Nat) (c13_3 : Int × Int × Int) (c20_4 : (List Int)) : (Bool × Int) → Option ((Bool × Int) ⊕ ((Bool) ⊕ (Bool × Int × Bool)))
  | (v7_13, v8_14) => bif decide (v8_14 < (c20_4.length : Int)) then (bif v7_13 then some true else (ix c20_4 v8_14).bind fun e61_22 => some (decide (e61_22 = c13_3.2.2))).bind fun v7_20 => (bif decide ((0 : Int) < v8_14) then (ix c20_4 v8_14).bind fun e71_25 => (ix c20_4 (IntKind.wrap .i64 (v8_14 - (1 : Int)))).bind fun e76_26 => bif !decide (e71_25 = (IntKind.wrap .i64 (e76_26 + (1 : Int)))) then some true else (ix c20_4 v8_14).bind fun e84_28 => bif decide (e84_28 < (0 : Int)) then some true else (ix c20_4 v8_14).bind fun e91_30 => bif decide (c13_3.2.1 ≤ e91_30) then some true else bif decide (c13_3.1 = (3 : Int)) then (ix c20_4 v8_14).bind fun e102_33 => some (decide (e102_33 < c13_3.2.2)) else some false else (ix c20_4 v8_14).bind fun e84_34 => bif decide (e84_34 < (0 : Int)) then some true else (ix c20_4 v8_14).bind fun e91_36 => bif decide (c13_3.2.1 ≤ e91_36) then some true else bif decide (c13_3.1 = (3 : Int)) then (ix c20_4 v8_14).bind fun e102_39 => some (decide (e102_39 < c13_3.2.2)) else some false).bind fun v107_23 => bif v107_23 then some (.inr (.inl false)) else some (.inl (v7_20, (IntKind.wrap .i64 (v8_14 + (1 : Int))))) else some (.inr (.inr (v7_13, v8_14, (decide (v8_14 < (c20_4.length : Int))))))
def p4 (n : Nat) (t0_0 : List Int) : Option (Bool) :=
  (p18 n t0_0).bind fun c10_1 => bif c10_1 then some true else (p19 n t0_0).bind fun c13_3 => (p14 n c13_3.1 c13_3.2.1 c13_3.2.2).bind fun c20_4 => (p13 n c13_3.1 c13_3.2.1 c13_3.2.2).bind fun c26_5 => bif !decide ((c20_4.length : Int) = (c26_5.length : Int)) then some false else (bif decide (c13_3.2.2 < (0 : Int)) then some true else bif decide (c13_3.2.1 ≤ c13_3.2.2) then some true else bif decide ((100 : Int) < c13_3.2.1) then some true else bif decide (c13_3.1 < (1 : Int)) then some true else some (decide ((3 : Int) < c13_3.1))).bind fun v47_7 => bif v47_7 then some (decide ((c20_4.length : Int) = (0 : Int))) else (loopN (p4_b1 n c13_3 c20_4) n (false, (0 : Int))).bind fun q => (match q with | .inl v2_15 => some v2_15 | .inr (v7_16, v8_17, v54_18) => (bif v7_16 then bif !decide (c13_3.1 = (1 : Int)) then bif !decide (c13_3.1 = (2 : Int)) then bif !decide (c13_3.1 = (3 : Int)) then some true else some (decide ((c20_4.length : Int) = (IntKind.wrap .i64 (c13_3.2.1 - c13_3.2.2)))) else bif decide ((c20_4.length : Int) = c13_3.2.1) then bif !decide (c13_3.1 = (3 : Int)) then some true else some (decide ((c20_4.length : Int) = (IntKind.wrap .i64 (c13_3.2.1 - c13_3.2.2)))) else some false else bif decide ((c20_4.length : Int) = (1 : Int)) then bif !decide (c13_3.1 = (2 : Int)) then bif !decide (c13_3.1 = (3 : Int)) then some true else some (decide ((c20_4.length : Int) = (IntKind.wrap .i64 (c13_3.2.1 - c13_3.2.2)))) else bif decide ((c20_4.length : Int) = c13_3.2.1) then bif !decide (c13_3.1 = (3 : Int)) then some true else some (decide ((c20_4.length : Int) = (IntKind.wrap .i64 (c13_3.2.1 - c13_3.2.2)))) else some false else some false else some false).bind fun v2_42 => some v2_42)
theorem big4 {n : Nat} {t0_0 : List Int} {r : Bool} (h : p4 n t0_0 = some r) : Big Try.prog τ An (.fn 4 [.one (.c (.sl (t0_0.map rI_u8)))] [] (.one (.c (.bool r))) none [] none) := by
  unfold p4 at h
  refine Big.of Try.func4 rfl rfl rfl rfl ?_
  have s0 : (DA [.one (.c (.sl (t0_0.map rI_u8)))] []).sl 0 = .one (.c (.sl (t0_0.map rI_u8))) := rfl
  generalize DA [.one (.c (.sl (t0_0.map rI_u8)))] [] = x at s0 ⊢
  refine c_reg (fun x => x.sl 0 = .one (.c (.sl (t0_0.map rI_u8)))) ?_ ?_
  · rw [← put_self s0]
    refine asg rfl (by conv => lhs; whnf) rfl ?_
    refine step_nil ?_
    exact rfl
  clear s0
  intro x s0
  refine c_seq ?_
  obtain ⟨c10_1, kc10_1, h⟩ := bind_some h
  refine c_reg (fun x => x.sl 0 = .one (.c (.sl (t0_0.map rI_u8))) ∧ x.sl 10 = .one (.c (.bool c10_1))) ?_ ?_
  · rw [← put_self s0]
    refine mv rfl (by conv => lhs; whnf) rfl ?_
    refine cl0 (v' := .one (.c (.bool c10_1))) (big18 kc10_1) rfl rfl rfl rfl rfl rfl rfl rfl rfl ?_
    refine step_nil ?_
    exact ⟨rfl, rfl⟩
  clear s0
  intro x hM
  obtain ⟨s0, s10⟩ := hM
  refine bif_cases h (fun q2 h => ?_) (fun q2 h => ?_)
  · refine c_ct (by rw [← q2]; exact s10) ?_
    refine c_reg (fun x => x.sl 2 = .one (.c (.bool true))) ?_ ?_
    · rw [← put_self s0, ← put_self s10]
      refine asg rfl (by conv => lhs; whnf) rfl ?_
      refine step_nil ?_
      exact rfl
    clear s0 s10
    intro x s2
    refine c_ret ?_
    cases h
    show _ ∧ _
    rw [← put_self s2]
    exact ⟨.inr rfl, _, rfl, rfl, rfl, rfl⟩
  · refine c_cf (by rw [← q2]; exact s10) ?_
    refine c_skip ?_
    show vcC _ _ _ _ _ _ _
    obtain ⟨c13_3, kc13_3, h⟩ := bind_some h
    refine c_reg (fun x => x.sl 3 = .one (.c (.int .i64 c13_3.1)) ∧ x.sl 4 = .one (.c (.int .i64 c13_3.2.1)) ∧ x.sl 5 = .one (.c (.int .i64 c13_3.2.2))) ?_ ?_
    · rw [← put_self s0, ← put_self s10]
      refine mv rfl (by conv => lhs; whnf) rfl ?_
      refine cl0 (v' := .tup [.c (.int .i64 c13_3.1), .c (.int .i64 c13_3.2.1), .c (.int .i64 c13_3.2.2)]) (big19 kc13_3) rfl rfl rfl rfl rfl rfl rfl rfl rfl ?_
      refine mv rfl (by conv => lhs; whnf) rfl ?_
      refine ext rfl (by conv => lhs; whnf) rfl rfl ?_
      refine ext rfl (by conv => lhs; whnf) rfl rfl ?_
      refine ext rfl (by conv => lhs; whnf) rfl rfl ?_
      refine asg rfl (by conv => lhs; whnf) rfl ?_
      refine asg rfl (by conv => lhs; whnf) rfl ?_
      refine asg rfl (by conv => lhs; whnf) rfl ?_
      refine step_nil ?_
      exact ⟨rfl, rfl, rfl⟩
    clear s0 s10
    intro x hM
    obtain ⟨s3, s4, s5⟩ := hM
    obtain ⟨c20_4, kc20_4, h⟩ := bind_some h
    refine c_reg (fun x => x.sl 3 = .one (.c (.int .i64 c13_3.1)) ∧ x.sl 4 = .one (.c (.int .i64 c13_3.2.1)) ∧ x.sl 5 = .one (.c (.int .i64 c13_3.2.2)) ∧ x.sl 6 = .one (.c (.sl (c20_4.map rI_i64)))) ?_ ?_
    · rw [← put_self s3, ← put_self s4, ← put_self s5]
      refine mv rfl (by conv => lhs; whnf) rfl ?_
      refine mv rfl (by conv => lhs; whnf) rfl ?_
      refine mv rfl (by conv => lhs; whnf) rfl ?_
      refine cl0 (v' := .one (.c (.sl (c20_4.map rI_i64)))) (big14 kc20_4) rfl rfl rfl rfl rfl rfl rfl rfl rfl ?_
      refine asg rfl (by conv => lhs; whnf) rfl ?_
      refine step_nil ?_
      exact ⟨rfl, rfl, rfl, rfl⟩
    clear s3 s4 s5
    intro x hM
    obtain ⟨s3, s4, s5, s6⟩ := hM
    refine c_seq ?_
    obtain ⟨c26_5, kc26_5, h⟩ := bind_some h
    refine c_reg (fun x => x.sl 3 = .one (.c (.int .i64 c13_3.1)) ∧ x.sl 4 = .one (.c (.int .i64 c13_3.2.1)) ∧ x.sl 5 = .one (.c (.int .i64 c13_3.2.2)) ∧ x.sl 6 = .one (.c (.sl (c20_4.map rI_i64))) ∧ x.sl 28 = .one (.c (.bool (!decide ((c20_4.length : Int) = (c26_5.length : Int)))))) ?_ ?_
    · rw [← put_self s3, ← put_self s4, ← put_self s5, ← put_self s6]
      refine mv rfl (by conv => lhs; whnf) rfl ?_
      refine ln rfl rfl (by conv => lhs; whnf) rfl ?_
      refine mv rfl (by conv => lhs; whnf) rfl ?_
      refine mv rfl (by conv => lhs; whnf) rfl ?_
      refine mv rfl (by conv => lhs; whnf) rfl ?_
      refine cl0 (v' := .one (.c (.sl (c26_5.map rI_i64)))) (big13 kc26_5) rfl rfl rfl rfl rfl rfl rfl rfl rfl ?_
      refine ln rfl rfl (by conv => lhs; whnf) rfl ?_
      refine rd (.bool (!decide ((c20_4.length : Int) = (c26_5.length : Int)))) rfl rfl rfl rfl rfl ?_
      refine step_nil ?_
      exact ⟨rfl, rfl, rfl, rfl, rfl⟩
    clear s3 s4 s5 s6
    intro x hM
    obtain ⟨s3, s4, s5, s6, s28⟩ := hM
    refine bif_cases h (fun q6 h => ?_) (fun q6 h => ?_)
    · refine c_ct (by rw [← q6]; exact s28) ?_
      refine c_reg (fun x => x.sl 2 = .one (.c (.bool false))) ?_ ?_
      · rw [← put_self s3, ← put_self s4, ← put_self s5, ← put_self s6, ← put_self s28]
        refine asg rfl (by conv => lhs; whnf) rfl ?_
        refine step_nil ?_
        exact rfl
      clear s3 s4 s5 s6 s28
      intro x s2
      refine c_ret ?_
      cases h
      show _ ∧ _
      rw [← put_self s2]
      exact ⟨.inr rfl, _, rfl, rfl, rfl, rfl⟩
    · refine c_cf (by rw [← q6]; exact s28) ?_
      refine c_skip ?_
      show vcC _ _ _ _ _ _ _
      refine c_seq ?_
      obtain ⟨v47_7, hr, h⟩ := bind_some h
      refine c_reg (fun x => x.sl 3 = .one (.c (.int .i64 c13_3.1)) ∧ x.sl 4 = .one (.c (.int .i64 c13_3.2.1)) ∧ x.sl 5 = .one (.c (.int .i64 c13_3.2.2)) ∧ x.sl 6 = .one (.c (.sl (c20_4.map rI_i64))) ∧ x.sl 47 = .one (.c (.bool v47_7))) ?_ ?_
      · clear h
        rw [← put_self s3, ← put_self s4, ← put_self s5, ← put_self s6, ← put_self s28]
        refine mv rfl (by conv => lhs; whnf) rfl ?_
        refine rd (.bool (decide (c13_3.2.2 < (0 : Int)))) rfl rfl rfl rfl rfl ?_
        refine mv rfl (by conv => lhs; whnf) rfl ?_
        refine bif_cases hr (fun q8 hr => ?_) (fun q8 hr => ?_)
        · refine sk (g_ofc rfl (by conv => lhs; whnf) q8 rfl) ?_
          refine sk (g_ofc rfl (by conv => lhs; whnf) q8 rfl) ?_
          refine sk (g_ofc rfl (by conv => lhs; whnf) q8 rfl) ?_
          refine pkc rfl (by conv => lhs; whnf) q8 (by conv => lhs; whnf) rfl ?_
          refine mv rfl (by conv => lhs; whnf) rfl ?_
          refine sk (g_ofc rfl (by conv => lhs; whnf) rfl rfl) ?_
          refine sk (g_ofc rfl (by conv => lhs; whnf) rfl rfl) ?_
          refine pkc rfl (by conv => lhs; whnf) rfl (by conv => lhs; whnf) rfl ?_
          refine mv rfl (by conv => lhs; whnf) rfl ?_
          refine sk (g_ofc rfl (by conv => lhs; whnf) rfl rfl) ?_
          refine sk (g_ofc rfl (by conv => lhs; whnf) rfl rfl) ?_
          refine pkc rfl (by conv => lhs; whnf) rfl (by conv => lhs; whnf) rfl ?_
          refine mv rfl (by conv => lhs; whnf) rfl ?_
          refine sk (g_ofc rfl (by conv => lhs; whnf) rfl rfl) ?_
          refine sk (g_ofc rfl (by conv => lhs; whnf) rfl rfl) ?_
          refine pkc rfl (by conv => lhs; whnf) rfl (by conv => lhs; whnf) rfl ?_
          refine step_nil ?_
          cases hr
          exact ⟨rfl, rfl, rfl, rfl, rfl⟩
        · refine mv (g_ofc rfl (by conv => lhs; whnf) q8 rfl) (by conv => lhs; whnf) rfl ?_
          refine mv (g_ofc rfl (by conv => lhs; whnf) q8 rfl) (by conv => lhs; whnf) rfl ?_
          refine rd (.bool (decide (c13_3.2.1 ≤ c13_3.2.2))) (g_ofc rfl (by conv => lhs; whnf) q8 rfl) rfl rfl rfl rfl ?_
          refine pkc rfl (by conv => lhs; whnf) q8 (by conv => lhs; whnf) rfl ?_
          refine mv rfl (by conv => lhs; whnf) rfl ?_
          refine bif_cases hr (fun q9 hr => ?_) (fun q9 hr => ?_)
          · refine sk (g_ofc rfl (by conv => lhs; whnf) q9 rfl) ?_
            refine sk (g_ofc rfl (by conv => lhs; whnf) q9 rfl) ?_
            refine pkc rfl (by conv => lhs; whnf) q9 (by conv => lhs; whnf) rfl ?_
            refine mv rfl (by conv => lhs; whnf) rfl ?_
            refine sk (g_ofc rfl (by conv => lhs; whnf) rfl rfl) ?_
            refine sk (g_ofc rfl (by conv => lhs; whnf) rfl rfl) ?_
            refine pkc rfl (by conv => lhs; whnf) rfl (by conv => lhs; whnf) rfl ?_
            refine mv rfl (by conv => lhs; whnf) rfl ?_
            refine sk (g_ofc rfl (by conv => lhs; whnf) rfl rfl) ?_
            refine sk (g_ofc rfl (by conv => lhs; whnf) rfl rfl) ?_
            refine pkc rfl (by conv => lhs; whnf) rfl (by conv => lhs; whnf) rfl ?_
            refine step_nil ?_
            cases hr
            exact ⟨rfl, rfl, rfl, rfl, rfl⟩
          · refine mv (g_ofc rfl (by conv => lhs; whnf) q9 rfl) (by conv => lhs; whnf) rfl ?_
            refine rd (.bool (decide ((100 : Int) < c13_3.2.1))) (g_ofc rfl (by conv => lhs; whnf) q9 rfl) rfl rfl rfl rfl ?_
            refine pkc rfl (by conv => lhs; whnf) q9 (by conv => lhs; whnf) rfl ?_
            refine mv rfl (by conv => lhs; whnf) rfl ?_
            refine bif_cases hr (fun q10 hr => ?_) (fun q10 hr => ?_)
            · refine sk (g_ofc rfl (by conv => lhs; whnf) q10 rfl) ?_
              refine sk (g_ofc rfl (by conv => lhs; whnf) q10 rfl) ?_
              refine pkc rfl (by conv => lhs; whnf) q10 (by conv => lhs; whnf) rfl ?_
              refine mv rfl (by conv => lhs; whnf) rfl ?_
              refine sk (g_ofc rfl (by conv => lhs; whnf) rfl rfl) ?_
              refine sk (g_ofc rfl (by conv => lhs; whnf) rfl rfl) ?_
              refine pkc rfl (by conv => lhs; whnf) rfl (by conv => lhs; whnf) rfl ?_
              refine step_nil ?_
              cases hr
              exact ⟨rfl, rfl, rfl, rfl, rfl⟩
            · refine mv (g_ofc rfl (by conv => lhs; whnf) q10 rfl) (by conv => lhs; whnf) rfl ?_
              refine rd (.bool (decide (c13_3.1 < (1 : Int)))) (g_ofc rfl (by conv => lhs; whnf) q10 rfl) rfl rfl rfl rfl ?_
              refine pkc rfl (by conv => lhs; whnf) q10 (by conv => lhs; whnf) rfl ?_
              refine mv rfl (by conv => lhs; whnf) rfl ?_
              refine bif_cases hr (fun q11 hr => ?_) (fun q11 hr => ?_)
              · refine sk (g_ofc rfl (by conv => lhs; whnf) q11 rfl) ?_
                refine sk (g_ofc rfl (by conv => lhs; whnf) q11 rfl) ?_
                refine pkc rfl (by conv => lhs; whnf) q11 (by conv => lhs; whnf) rfl ?_
                refine step_nil ?_
                cases hr
                exact ⟨rfl, rfl, rfl, rfl, rfl⟩
              · refine mv (g_ofc rfl (by conv => lhs; whnf) q11 rfl) (by conv => lhs; whnf) rfl ?_
                refine rd (.bool (decide ((3 : Int) < c13_3.1))) (g_ofc rfl (by conv => lhs; whnf) q11 rfl) rfl rfl rfl rfl ?_
                refine pkc rfl (by conv => lhs; whnf) q11 (by conv => lhs; whnf) rfl ?_
                refine step_nil ?_
                cases hr
                exact ⟨rfl, rfl, rfl, rfl, rfl⟩
      clear hr
      clear s3 s4 s5 s6 s28
      intro x hM
      obtain ⟨s3, s4, s5, s6, s47⟩ := hM
      refine bif_cases h (fun q12 h => ?_) (fun q12 h => ?_)
      · refine c_ct (by rw [← q12]; exact s47) ?_
        refine c_reg (fun x => x.sl 2 = .one (.c (.bool (decide ((c20_4.length : Int) = (0 : Int)))))) ?_ ?_
        · rw [← put_self s3, ← put_self s4, ← put_self s5, ← put_self s6, ← put_self s47]
          refine mv rfl (by conv => lhs; whnf) rfl ?_
          refine ln rfl rfl (by conv => lhs; whnf) rfl ?_
          refine rd (.bool (decide ((c20_4.length : Int) = (0 : Int)))) rfl rfl rfl rfl rfl ?_
          refine asg rfl (by conv => lhs; whnf) rfl ?_
          refine step_nil ?_
          exact rfl
        clear s3 s4 s5 s6 s47
        intro x s2
        refine c_ret ?_
        cases h
        show _ ∧ _
        rw [← put_self s2]
        exact ⟨.inr rfl, _, rfl, rfl, rfl, rfl⟩
      · refine c_cf (by rw [← q12]; exact s47) ?_
        refine c_skip ?_
        show vcC _ _ _ _ _ _ _
        refine c_reg (fun x => x.sl 3 = .one (.c (.int .i64 c13_3.1)) ∧ x.sl 4 = .one (.c (.int .i64 c13_3.2.1)) ∧ x.sl 5 = .one (.c (.int .i64 c13_3.2.2)) ∧ x.sl 6 = .one (.c (.sl (c20_4.map rI_i64))) ∧ x.sl 7 = .one (.c (.bool false))) ?_ ?_
        · rw [← put_self s3, ← put_self s4, ← put_self s5, ← put_self s6, ← put_self s47]
          refine asg rfl (by conv => lhs; whnf) rfl ?_
          refine step_nil ?_
          exact ⟨rfl, rfl, rfl, rfl, rfl⟩
        clear s3 s4 s5 s6 s47
        intro x hM
        obtain ⟨s3, s4, s5, s6, s7⟩ := hM
        refine c_seq ?_
        refine c_reg (fun x => x.sl 3 = .one (.c (.int .i64 c13_3.1)) ∧ x.sl 4 = .one (.c (.int .i64 c13_3.2.1)) ∧ x.sl 5 = .one (.c (.int .i64 c13_3.2.2)) ∧ x.sl 6 = .one (.c (.sl (c20_4.map rI_i64))) ∧ x.sl 7 = .one (.c (.bool false)) ∧ x.sl 8 = .one (.c (.int .i64 0))) ?_ ?_
        · rw [← put_self s3, ← put_self s4, ← put_self s5, ← put_self s6, ← put_self s7]
          refine asg rfl (by conv => lhs; whnf) rfl ?_
          refine step_nil ?_
          exact ⟨rfl, rfl, rfl, rfl, rfl, rfl⟩
        clear s3 s4 s5 s6 s7
        intro x hM
        obtain ⟨s3, s4, s5, s6, s7, s8⟩ := hM
        obtain ⟨q41, hq, h⟩ := bind_some h
        refine c_block ?_
        refine Wd.loopN (fun s x => match s with | (v7_13, v8_14) => x.sl 3 = .one (.c (.int .i64 c13_3.1)) ∧ x.sl 4 = .one (.c (.int .i64 c13_3.2.1)) ∧ x.sl 5 = .one (.c (.int .i64 c13_3.2.2)) ∧ x.sl 6 = .one (.c (.sl (c20_4.map rI_i64))) ∧ x.sl 7 = .one (.c (.bool v7_13)) ∧ x.sl 8 = .one (.c (.int .i64 v8_14))) (fun q e x => match q with | .inl v2_15 => e = .r ∧ x.sl 2 = .one (.c (.bool v2_15)) | .inr (v7_16, v8_17, v54_18) => e = .e 0 ∧ x.sl 3 = .one (.c (.int .i64 c13_3.1)) ∧ x.sl 4 = .one (.c (.int .i64 c13_3.2.1)) ∧ x.sl 5 = .one (.c (.int .i64 c13_3.2.2)) ∧ x.sl 6 = .one (.c (.sl (c20_4.map rI_i64))) ∧ x.sl 7 = .one (.c (.bool v7_16)) ∧ x.sl 8 = .one (.c (.int .i64 v8_17)) ∧ x.sl 54 = .one (.c (.bool v54_18))) ?_ hq (⟨s3, s4, s5, s6, s7, s8⟩) ?_
        · clear h hq
          clear s3 s4 s5 s6 s7 s8
          intro st o x hR h
          obtain ⟨v7_13, v8_14⟩ := st
          obtain ⟨s3, s4, s5, s6, s7, s8⟩ := hR
          unfold p4_b1 at h
          refine c_seq ?_
          refine c_reg (fun x => x.sl 3 = .one (.c (.int .i64 c13_3.1)) ∧ x.sl 4 = .one (.c (.int .i64 c13_3.2.1)) ∧ x.sl 5 = .one (.c (.int .i64 c13_3.2.2)) ∧ x.sl 6 = .one (.c (.sl (c20_4.map rI_i64))) ∧ x.sl 7 = .one (.c (.bool v7_13)) ∧ x.sl 8 = .one (.c (.int .i64 v8_14)) ∧ x.sl 54 = .one (.c (.bool (decide (v8_14 < (c20_4.length : Int)))))) ?_ ?_
          · rw [← put_self s3, ← put_self s4, ← put_self s5, ← put_self s6, ← put_self s7, ← put_self s8]
            refine mv rfl (by conv => lhs; whnf) rfl ?_
            refine mv rfl (by conv => lhs; whnf) rfl ?_
            refine ln rfl rfl (by conv => lhs; whnf) rfl ?_
            refine rd (.bool (decide (v8_14 < (c20_4.length : Int)))) rfl rfl rfl rfl rfl ?_
            refine step_nil ?_
            exact ⟨rfl, rfl, rfl, rfl, rfl, rfl, rfl⟩
          clear s3 s4 s5 s6 s7 s8
          intro x hM
          obtain ⟨s3, s4, s5, s6, s7, s8, s54⟩ := hM
          refine bif_cases h (fun q19 h => ?_) (fun q19 h => ?_)
          · refine c_ct (by rw [← q19]; exact s54) ?_
            refine c_skip ?_
            show vcC _ _ _ _ _ _ _
            refine c_seq ?_
            refine c_block ?_
            obtain ⟨v7_20, hr, h⟩ := bind_some h
            refine c_reg (fun x => x.sl 3 = .one (.c (.int .i64 c13_3.1)) ∧ x.sl 4 = .one (.c (.int .i64 c13_3.2.1)) ∧ x.sl 5 = .one (.c (.int .i64 c13_3.2.2)) ∧ x.sl 6 = .one (.c (.sl (c20_4.map rI_i64))) ∧ x.sl 7 = .one (.c (.bool v7_20)) ∧ x.sl 8 = .one (.c (.int .i64 v8_14))) ?_ ?_
            · clear h
              rw [← put_self s3, ← put_self s4, ← put_self s5, ← put_self s6, ← put_self s7, ← put_self s8, ← put_self s54]
              refine mv rfl (by conv => lhs; whnf) rfl ?_
              refine mv rfl (by conv => lhs; whnf) rfl ?_
              refine bif_cases hr (fun q21 hr => ?_) (fun q21 hr => ?_)
              · refine sk (g_ofc rfl (by conv => lhs; whnf) q21 rfl) ?_
                refine sk (g_ofc rfl (by conv => lhs; whnf) q21 rfl) ?_
                refine sk (g_ofc rfl (by conv => lhs; whnf) q21 rfl) ?_
                refine sk (g_ofc rfl (by conv => lhs; whnf) q21 rfl) ?_
                refine sk (g_ofc rfl (by conv => lhs; whnf) q21 rfl) ?_
                refine sk (g_ofc rfl (by conv => lhs; whnf) q21 rfl) ?_
                refine pkc rfl (by conv => lhs; whnf) q21 (by conv => lhs; whnf) rfl ?_
                refine asg rfl (by conv => lhs; whnf) rfl ?_
                refine step_nil ?_
                cases hr
                exact ⟨rfl, rfl, rfl, rfl, rfl, rfl⟩
              · refine mv (g_ofc rfl (by conv => lhs; whnf) q21 rfl) (by conv => lhs; whnf) rfl ?_
                refine mv (g_ofc rfl (by conv => lhs; whnf) q21 rfl) (by conv => lhs; whnf) rfl ?_
                obtain ⟨e61_22, ke61_22, hr⟩ := bind_some hr
                refine ixa (f := rI_i64) ke61_22 (g_ofc rfl (by conv => lhs; whnf) q21 rfl) rfl rfl (by conv => lhs; whnf) (by conv => lhs; whnf) rfl rfl rfl ?_
                refine ldc (g_ofc rfl (by conv => lhs; whnf) q21 rfl) rfl (by conv => lhs; whnf) rfl rfl ?_
                refine mv (g_ofc rfl (by conv => lhs; whnf) q21 rfl) (by conv => lhs; whnf) rfl ?_
                refine rd (.bool (decide (e61_22 = c13_3.2.2))) (g_ofc rfl (by conv => lhs; whnf) q21 rfl) rfl rfl rfl rfl ?_
                refine pkc rfl (by conv => lhs; whnf) q21 (by conv => lhs; whnf) rfl ?_
                refine asg rfl (by conv => lhs; whnf) rfl ?_
                refine step_nil ?_
                cases hr
                exact ⟨rfl, rfl, rfl, rfl, rfl, rfl⟩
            clear hr
            clear s3 s4 s5 s6 s7 s8 s54
            intro x hM
            obtain ⟨s3, s4, s5, s6, s7, s8⟩ := hM
            obtain ⟨v107_23, hr, h⟩ := bind_some h
            refine c_reg (fun x => x.sl 3 = .one (.c (.int .i64 c13_3.1)) ∧ x.sl 4 = .one (.c (.int .i64 c13_3.2.1)) ∧ x.sl 5 = .one (.c (.int .i64 c13_3.2.2)) ∧ x.sl 6 = .one (.c (.sl (c20_4.map rI_i64))) ∧ x.sl 7 = .one (.c (.bool v7_20)) ∧ x.sl 8 = .one (.c (.int .i64 v8_14)) ∧ x.sl 107 = .one (.c (.bool v107_23))) ?_ ?_
            · clear h
              rw [← put_self s3, ← put_self s4, ← put_self s5, ← put_self s6, ← put_self s7, ← put_self s8]
              refine mv rfl (by conv => lhs; whnf) rfl ?_
              refine rd (.bool (decide ((0 : Int) < v8_14))) rfl rfl rfl rfl rfl ?_
              refine mv rfl (by conv => lhs; whnf) rfl ?_
              refine bif_cases hr (fun q24 hr => ?_) (fun q24 hr => ?_)
              · refine mv (g_ofc rfl (by conv => lhs; whnf) q24 rfl) (by conv => lhs; whnf) rfl ?_
                refine mv (g_ofc rfl (by conv => lhs; whnf) q24 rfl) (by conv => lhs; whnf) rfl ?_
                obtain ⟨e71_25, ke71_25, hr⟩ := bind_some hr
                refine ixa (f := rI_i64) ke71_25 (g_ofc rfl (by conv => lhs; whnf) q24 rfl) rfl rfl (by conv => lhs; whnf) (by conv => lhs; whnf) rfl rfl rfl ?_
                refine ldc (g_ofc rfl (by conv => lhs; whnf) q24 rfl) rfl (by conv => lhs; whnf) rfl rfl ?_
                refine mv (g_ofc rfl (by conv => lhs; whnf) q24 rfl) (by conv => lhs; whnf) rfl ?_
                refine mv (g_ofc rfl (by conv => lhs; whnf) q24 rfl) (by conv => lhs; whnf) rfl ?_
                refine rd (.int .i64 (IntKind.wrap .i64 (v8_14 - (1 : Int)))) (g_ofc rfl (by conv => lhs; whnf) q24 rfl) rfl rfl rfl rfl ?_
                obtain ⟨e76_26, ke76_26, hr⟩ := bind_some hr
                refine ixa (f := rI_i64) ke76_26 (g_ofc rfl (by conv => lhs; whnf) q24 rfl) rfl rfl (by conv => lhs; whnf) (by conv => lhs; whnf) rfl rfl rfl ?_
                refine ldc (g_ofc rfl (by conv => lhs; whnf) q24 rfl) rfl (by conv => lhs; whnf) rfl rfl ?_
                refine rd (.int .i64 (IntKind.wrap .i64 (e76_26 + (1 : Int)))) (g_ofc rfl (by conv => lhs; whnf) q24 rfl) rfl rfl rfl rfl ?_
                refine rd (.bool (!decide (e71_25 = (IntKind.wrap .i64 (e76_26 + (1 : Int)))))) (g_ofc rfl (by conv => lhs; whnf) q24 rfl) rfl rfl rfl rfl ?_
                refine pkc rfl (by conv => lhs; whnf) q24 (by conv => lhs; whnf) rfl ?_
                refine mv rfl (by conv => lhs; whnf) rfl ?_
                refine bif_cases hr (fun q27 hr => ?_) (fun q27 hr => ?_)
                · refine sk (g_ofc rfl (by conv => lhs; whnf) q27 rfl) ?_
                  refine sk (g_ofc rfl (by conv => lhs; whnf) q27 rfl) ?_
                  refine sk (g_ofc rfl (by conv => lhs; whnf) q27 rfl) ?_
                  refine sk (g_ofc rfl (by conv => lhs; whnf) q27 rfl) ?_
                  refine sk (g_ofc rfl (by conv => lhs; whnf) q27 rfl) ?_
                  refine pkc rfl (by conv => lhs; whnf) q27 (by conv => lhs; whnf) rfl ?_
                  refine mv rfl (by conv => lhs; whnf) rfl ?_
                  refine sk (g_ofc rfl (by conv => lhs; whnf) rfl rfl) ?_
                  refine sk (g_ofc rfl (by conv => lhs; whnf) rfl rfl) ?_
                  refine sk (g_ofc rfl (by conv => lhs; whnf) rfl rfl) ?_
                  refine sk (g_ofc rfl (by conv => lhs; whnf) rfl rfl) ?_
                  refine sk (g_ofc rfl (by conv => lhs; whnf) rfl rfl) ?_
                  refine sk (g_ofc rfl (by conv => lhs; whnf) rfl rfl) ?_
                  refine pkc rfl (by conv => lhs; whnf) rfl (by conv => lhs; whnf) rfl ?_
                  refine mv rfl (by conv => lhs; whnf) rfl ?_
                  refine sk (g_ofc rfl (by conv => lhs; whnf) rfl rfl) ?_
                  refine sk (g_ofc rfl (by conv => lhs; whnf) rfl rfl) ?_
                  refine sk (g_ofc rfl (by conv => lhs; whnf) rfl rfl) ?_
                  refine sk (g_und rfl rfl) ?_
                  refine sk (g_und rfl rfl) ?_
                  refine sk (g_und rfl rfl) ?_
                  refine sk (g_und rfl rfl) ?_
                  refine sk (g_und rfl rfl) ?_
                  refine sk (g_und rfl rfl) ?_
                  refine sk (g_ofc rfl (by conv => lhs; whnf) rfl rfl) ?_
                  refine pkc rfl (by conv => lhs; whnf) rfl (by conv => lhs; whnf) rfl ?_
                  refine step_nil ?_
                  cases hr
                  exact ⟨rfl, rfl, rfl, rfl, rfl, rfl, rfl⟩
                · refine mv (g_ofc rfl (by conv => lhs; whnf) q27 rfl) (by conv => lhs; whnf) rfl ?_
                  refine mv (g_ofc rfl (by conv => lhs; whnf) q27 rfl) (by conv => lhs; whnf) rfl ?_
                  obtain ⟨e84_28, ke84_28, hr⟩ := bind_some hr
                  refine ixa (f := rI_i64) ke84_28 (g_ofc rfl (by conv => lhs; whnf) q27 rfl) rfl rfl (by conv => lhs; whnf) (by conv => lhs; whnf) rfl rfl rfl ?_
                  refine ldc (g_ofc rfl (by conv => lhs; whnf) q27 rfl) rfl (by conv => lhs; whnf) rfl rfl ?_
                  refine rd (.bool (decide (e84_28 < (0 : Int)))) (g_ofc rfl (by conv => lhs; whnf) q27 rfl) rfl rfl rfl rfl ?_
                  refine pkc rfl (by conv => lhs; whnf) q27 (by conv => lhs; whnf) rfl ?_
                  refine mv rfl (by conv => lhs; whnf) rfl ?_
                  refine bif_cases hr (fun q29 hr => ?_) (fun q29 hr => ?_)
                  · refine sk (g_ofc rfl (by conv => lhs; whnf) q29 rfl) ?_
                    refine sk (g_ofc rfl (by conv => lhs; whnf) q29 rfl) ?_
                    refine sk (g_ofc rfl (by conv => lhs; whnf) q29 rfl) ?_
                    refine sk (g_ofc rfl (by conv => lhs; whnf) q29 rfl) ?_
                    refine sk (g_ofc rfl (by conv => lhs; whnf) q29 rfl) ?_
                    refine sk (g_ofc rfl (by conv => lhs; whnf) q29 rfl) ?_
                    refine pkc rfl (by conv => lhs; whnf) q29 (by conv => lhs; whnf) rfl ?_
                    refine mv rfl (by conv => lhs; whnf) rfl ?_
                    refine sk (g_ofc rfl (by conv => lhs; whnf) rfl rfl) ?_
                    refine sk (g_ofc rfl (by conv => lhs; whnf) rfl rfl) ?_
                    refine sk (g_ofc rfl (by conv => lhs; whnf) rfl rfl) ?_
                    refine sk (g_und rfl rfl) ?_
                    refine sk (g_und rfl rfl) ?_
                    refine sk (g_und rfl rfl) ?_
                    refine sk (g_und rfl rfl) ?_
                    refine sk (g_und rfl rfl) ?_
                    refine sk (g_und rfl rfl) ?_
                    refine sk (g_ofc rfl (by conv => lhs; whnf) rfl rfl) ?_
                    refine pkc rfl (by conv => lhs; whnf) rfl (by conv => lhs; whnf) rfl ?_
                    refine step_nil ?_
                    cases hr
                    exact ⟨rfl, rfl, rfl, rfl, rfl, rfl, rfl⟩
                  · refine mv (g_ofc rfl (by conv => lhs; whnf) q29 rfl) (by conv => lhs; whnf) rfl ?_
                    refine mv (g_ofc rfl (by conv => lhs; whnf) q29 rfl) (by conv => lhs; whnf) rfl ?_
                    obtain ⟨e91_30, ke91_30, hr⟩ := bind_some hr
                    refine ixa (f := rI_i64) ke91_30 (g_ofc rfl (by conv => lhs; whnf) q29 rfl) rfl rfl (by conv => lhs; whnf) (by conv => lhs; whnf) rfl rfl rfl ?_
                    refine ldc (g_ofc rfl (by conv => lhs; whnf) q29 rfl) rfl (by conv => lhs; whnf) rfl rfl ?_
                    refine mv (g_ofc rfl (by conv => lhs; whnf) q29 rfl) (by conv => lhs; whnf) rfl ?_
                    refine rd (.bool (decide (c13_3.2.1 ≤ e91_30))) (g_ofc rfl (by conv => lhs; whnf) q29 rfl) rfl rfl rfl rfl ?_
                    refine pkc rfl (by conv => lhs; whnf) q29 (by conv => lhs; whnf) rfl ?_
                    refine mv rfl (by conv => lhs; whnf) rfl ?_
                    refine bif_cases hr (fun q31 hr => ?_) (fun q31 hr => ?_)
                    · refine sk (g_ofc rfl (by conv => lhs; whnf) q31 rfl) ?_
                      refine sk (g_ofc rfl (by conv => lhs; whnf) q31 rfl) ?_
                      refine sk (g_ofc rfl (by conv => lhs; whnf) q31 rfl) ?_
                      refine sk (g_und rfl rfl) ?_
                      refine sk (g_und rfl rfl) ?_
                      refine sk (g_und rfl rfl) ?_
                      refine sk (g_und rfl rfl) ?_
                      refine sk (g_und rfl rfl) ?_
                      refine sk (g_und rfl rfl) ?_
                      refine sk (g_ofc rfl (by conv => lhs; whnf) q31 rfl) ?_
                      refine pkc rfl (by conv => lhs; whnf) q31 (by conv => lhs; whnf) rfl ?_
                      refine step_nil ?_
                      cases hr
                      exact ⟨rfl, rfl, rfl, rfl, rfl, rfl, rfl⟩
                    · refine mv (g_ofc rfl (by conv => lhs; whnf) q31 rfl) (by conv => lhs; whnf) rfl ?_
                      refine rd (.bool (decide (c13_3.1 = (3 : Int)))) (g_ofc rfl (by conv => lhs; whnf) q31 rfl) rfl rfl rfl rfl ?_
                      refine mv (g_ofc rfl (by conv => lhs; whnf) q31 rfl) (by conv => lhs; whnf) rfl ?_
                      refine bif_cases hr (fun q32 hr => ?_) (fun q32 hr => ?_)
                      · refine mv (g_ofc rfl (by conv => lhs; whnf) q32 rfl) (by conv => lhs; whnf) rfl ?_
                        refine mv (g_ofc rfl (by conv => lhs; whnf) q32 rfl) (by conv => lhs; whnf) rfl ?_
                        obtain ⟨e102_33, ke102_33, hr⟩ := bind_some hr
                        refine ixa (f := rI_i64) ke102_33 (g_ofc rfl (by conv => lhs; whnf) q32 rfl) rfl rfl (by conv => lhs; whnf) (by conv => lhs; whnf) rfl rfl rfl ?_
                        refine ldc (g_ofc rfl (by conv => lhs; whnf) q32 rfl) rfl (by conv => lhs; whnf) rfl rfl ?_
                        refine mv (g_ofc rfl (by conv => lhs; whnf) q32 rfl) (by conv => lhs; whnf) rfl ?_
                        refine rd (.bool (decide (e102_33 < c13_3.2.2))) (g_ofc rfl (by conv => lhs; whnf) q32 rfl) rfl rfl rfl rfl ?_
                        refine pkc (g_ofc rfl (by conv => lhs; whnf) q31 rfl) (by conv => lhs; whnf) q32 (by conv => lhs; whnf) rfl ?_
                        refine pkc rfl (by conv => lhs; whnf) q31 (by conv => lhs; whnf) rfl ?_
                        refine step_nil ?_
                        cases hr
                        exact ⟨rfl, rfl, rfl, rfl, rfl, rfl, rfl⟩
                      · refine sk (g_ofc rfl (by conv => lhs; whnf) q32 rfl) ?_
                        refine sk (g_ofc rfl (by conv => lhs; whnf) q32 rfl) ?_
                        refine sk (g_ofc rfl (by conv => lhs; whnf) q32 rfl) ?_
                        refine sk (g_ofc rfl (by conv => lhs; whnf) q32 rfl) ?_
                        refine sk (g_ofc rfl (by conv => lhs; whnf) q32 rfl) ?_
                        refine sk (g_ofc rfl (by conv => lhs; whnf) q32 rfl) ?_
                        refine pkc (g_ofc rfl (by conv => lhs; whnf) q31 rfl) (by conv => lhs; whnf) q32 (by conv => lhs; whnf) rfl ?_
                        refine pkc rfl (by conv => lhs; whnf) q31 (by conv => lhs; whnf) rfl ?_
                        refine step_nil ?_
                        cases hr
                        exact ⟨rfl, rfl, rfl, rfl, rfl, rfl, rfl⟩
              · refine sk (g_ofc rfl (by conv => lhs; whnf) q24 rfl) ?_
                refine sk (g_ofc rfl (by conv => lhs; whnf) q24 rfl) ?_
                refine sk (g_ofc rfl (by conv => lhs; whnf) q24 rfl) ?_
                refine sk (g_ofc rfl (by conv => lhs; whnf) q24 rfl) ?_
                refine sk (g_ofc rfl (by conv => lhs; whnf) q24 rfl) ?_
                refine sk (g_ofc rfl (by conv => lhs; whnf) q24 rfl) ?_
                refine sk (g_ofc rfl (by conv => lhs; whnf) q24 rfl) ?_
                refine sk (g_ofc rfl (by conv => lhs; whnf) q24 rfl) ?_
                refine sk (g_ofc rfl (by conv => lhs; whnf) q24 rfl) ?_
                refine sk (g_ofc rfl (by conv => lhs; whnf) q24 rfl) ?_
                refine sk (g_ofc rfl (by conv => lhs; whnf) q24 rfl) ?_
                refine pkc rfl (by conv => lhs; whnf) q24 (by conv => lhs; whnf) rfl ?_
                refine mv rfl (by conv => lhs; whnf) rfl ?_
                refine mv (g_ofc rfl (by conv => lhs; whnf) rfl rfl) (by conv => lhs; whnf) rfl ?_
                refine mv (g_ofc rfl (by conv => lhs; whnf) rfl rfl) (by conv => lhs; whnf) rfl ?_
                obtain ⟨e84_34, ke84_34, hr⟩ := bind_some hr
                refine ixa (f := rI_i64) ke84_34 (g_ofc rfl (by conv => lhs; whnf) rfl rfl) rfl rfl (by conv => lhs; whnf) (by conv => lhs; whnf) rfl rfl rfl ?_
                refine ldc (g_ofc rfl (by conv => lhs; whnf) rfl rfl) rfl (by conv => lhs; whnf) rfl rfl ?_
                refine rd (.bool (decide (e84_34 < (0 : Int)))) (g_ofc rfl (by conv => lhs; whnf) rfl rfl) rfl rfl rfl rfl ?_
                refine pkc rfl (by conv => lhs; whnf) rfl (by conv => lhs; whnf) rfl ?_
                refine mv rfl (by conv => lhs; whnf) rfl ?_
                refine bif_cases hr (fun q35 hr => ?_) (fun q35 hr => ?_)
                · refine sk (g_ofc rfl (by conv => lhs; whnf) q35 rfl) ?_
                  refine sk (g_ofc rfl (by conv => lhs; whnf) q35 rfl) ?_
                  refine sk (g_ofc rfl (by conv => lhs; whnf) q35 rfl) ?_
                  refine sk (g_ofc rfl (by conv => lhs; whnf) q35 rfl) ?_
                  refine sk (g_ofc rfl (by conv => lhs; whnf) q35 rfl) ?_
                  refine sk (g_ofc rfl (by conv => lhs; whnf) q35 rfl) ?_
                  refine pkc rfl (by conv => lhs; whnf) q35 (by conv => lhs; whnf) rfl ?_
                  refine mv rfl (by conv => lhs; whnf) rfl ?_
                  refine sk (g_ofc rfl (by conv => lhs; whnf) rfl rfl) ?_
                  refine sk (g_ofc rfl (by conv => lhs; whnf) rfl rfl) ?_
                  refine sk (g_ofc rfl (by conv => lhs; whnf) rfl rfl) ?_
                  refine sk (g_und rfl rfl) ?_
                  refine sk (g_und rfl rfl) ?_
                  refine sk (g_und rfl rfl) ?_
                  refine sk (g_und rfl rfl) ?_
                  refine sk (g_und rfl rfl) ?_
                  refine sk (g_und rfl rfl) ?_
                  refine sk (g_ofc rfl (by conv => lhs; whnf) rfl rfl) ?_
                  refine pkc rfl (by conv => lhs; whnf) rfl (by conv => lhs; whnf) rfl ?_
                  refine step_nil ?_
                  cases hr
                  exact ⟨rfl, rfl, rfl, rfl, rfl, rfl, rfl⟩
                · refine mv (g_ofc rfl (by conv => lhs; whnf) q35 rfl) (by conv => lhs; whnf) rfl ?_
                  refine mv (g_ofc rfl (by conv => lhs; whnf) q35 rfl) (by conv => lhs; whnf) rfl ?_
                  obtain ⟨e91_36, ke91_36, hr⟩ := bind_some hr
                  refine ixa (f := rI_i64) ke91_36 (g_ofc rfl (by conv => lhs; whnf) q35 rfl) rfl rfl (by conv => lhs; whnf) (by conv => lhs; whnf) rfl rfl rfl ?_
                  refine ldc (g_ofc rfl (by conv => lhs; whnf) q35 rfl) rfl (by conv => lhs; whnf) rfl rfl ?_
                  refine mv (g_ofc rfl (by conv => lhs; whnf) q35 rfl) (by conv => lhs; whnf) rfl ?_
                  refine rd (.bool (decide (c13_3.2.1 ≤ e91_36))) (g_ofc rfl (by conv => lhs; whnf) q35 rfl) rfl rfl rfl rfl ?_
                  refine pkc rfl (by conv => lhs; whnf) q35 (by conv => lhs; whnf) rfl ?_
                  refine mv rfl (by conv => lhs; whnf) rfl ?_
                  refine bif_cases hr (fun q37 hr => ?_) (fun q37 hr => ?_)
                  · refine sk (g_ofc rfl (by conv => lhs; whnf) q37 rfl) ?_
                    refine sk (g_ofc rfl (by conv => lhs; whnf) q37 rfl) ?_
                    refine sk (g_ofc rfl (by conv => lhs; whnf) q37 rfl) ?_
                    refine sk (g_und rfl rfl) ?_
                    refine sk (g_und rfl rfl) ?_
                    refine sk (g_und rfl rfl) ?_
                    refine sk (g_und rfl rfl) ?_
                    refine sk (g_und rfl rfl) ?_
                    refine sk (g_und rfl rfl) ?_
                    refine sk (g_ofc rfl (by conv => lhs; whnf) q37 rfl) ?_
                    refine pkc rfl (by conv => lhs; whnf) q37 (by conv => lhs; whnf) rfl ?_
                    refine step_nil ?_
                    cases hr
                    exact ⟨rfl, rfl, rfl, rfl, rfl, rfl, rfl⟩
                  · refine mv (g_ofc rfl (by conv => lhs; whnf) q37 rfl) (by conv => lhs; whnf) rfl ?_
                    refine rd (.bool (decide (c13_3.1 = (3 : Int)))) (g_ofc rfl (by conv => lhs; whnf) q37 rfl) rfl rfl rfl rfl ?_
                    refine mv (g_ofc rfl (by conv => lhs; whnf) q37 rfl) (by conv => lhs; whnf) rfl ?_
                    refine bif_cases hr (fun q38 hr => ?_) (fun q38 hr => ?_)
                    · refine mv (g_ofc rfl (by conv => lhs; whnf) q38 rfl) (by conv => lhs; whnf) rfl ?_
                      refine mv (g_ofc rfl (by conv => lhs; whnf) q38 rfl) (by conv => lhs; whnf) rfl ?_
                      obtain ⟨e102_39, ke102_39, hr⟩ := bind_some hr
                      refine ixa (f := rI_i64) ke102_39 (g_ofc rfl (by conv => lhs; whnf) q38 rfl) rfl rfl (by conv => lhs; whnf) (by conv => lhs; whnf) rfl rfl rfl ?_
                      refine ldc (g_ofc rfl (by conv => lhs; whnf) q38 rfl) rfl (by conv => lhs; whnf) rfl rfl ?_
                      refine mv (g_ofc rfl (by conv => lhs; whnf) q38 rfl) (by conv => lhs; whnf) rfl ?_
                      refine rd (.bool (decide (e102_39 < c13_3.2.2))) (g_ofc rfl (by conv => lhs; whnf) q38 rfl) rfl rfl rfl rfl ?_
                      refine pkc (g_ofc rfl (by conv => lhs; whnf) q37 rfl) (by conv => lhs; whnf) q38 (by conv => lhs; whnf) rfl ?_
                      refine pkc rfl (by conv => lhs; whnf) q37 (by conv => lhs; whnf) rfl ?_
                      refine step_nil ?_
                      cases hr
                      exact ⟨rfl, rfl, rfl, rfl, rfl, rfl, rfl⟩
                    · refine sk (g_ofc rfl (by conv => lhs; whnf) q38 rfl) ?_
                      refine sk (g_ofc rfl (by conv => lhs; whnf) q38 rfl) ?_
                      refine sk (g_ofc rfl (by conv => lhs; whnf) q38 rfl) ?_
                      refine sk (g_ofc rfl (by conv => lhs; whnf) q38 rfl) ?_
                      refine sk (g_ofc rfl (by conv => lhs; whnf) q38 rfl) ?_
                      refine sk (g_ofc rfl (by conv => lhs; whnf) q38 rfl) ?_
                      refine pkc (g_ofc rfl (by conv => lhs; whnf) q37 rfl) (by conv => lhs; whnf) q38 (by conv => lhs; whnf) rfl ?_
                      refine pkc rfl (by conv => lhs; whnf) q37 (by conv => lhs; whnf) rfl ?_
                      refine step_nil ?_
                      cases hr
                      exact ⟨rfl, rfl, rfl, rfl, rfl, rfl, rfl⟩
            clear hr
            clear s3 s4 s5 s6 s7 s8
            intro x hM
            obtain ⟨s3, s4, s5, s6, s7, s8, s107⟩ := hM
            refine bif_cases h (fun q40 h => ?_) (fun q40 h => ?_)
            · refine c_ct (by rw [← q40]; exact s107) ?_
              refine c_reg (fun x => x.sl 2 = .one (.c (.bool false))) ?_ ?_
              · rw [← put_self s3, ← put_self s4, ← put_self s5, ← put_self s6, ← put_self s7, ← put_self s8, ← put_self s107]
                refine asg rfl (by conv => lhs; whnf) rfl ?_
                refine step_nil ?_
                exact rfl
              clear s3 s4 s5 s6 s7 s8 s107
              intro x s2
              refine c_ret ?_
              cases h
              show _ ∧ _
              exact ⟨nofun, rfl, s2⟩
            · refine c_cf (by rw [← q40]; exact s107) ?_
              refine c_skip ?_
              show vcC _ _ _ _ _ _ _
              refine c_regl (fun x => x.sl 3 = .one (.c (.int .i64 c13_3.1)) ∧ x.sl 4 = .one (.c (.int .i64 c13_3.2.1)) ∧ x.sl 5 = .one (.c (.int .i64 c13_3.2.2)) ∧ x.sl 6 = .one (.c (.sl (c20_4.map rI_i64))) ∧ x.sl 7 = .one (.c (.bool v7_20)) ∧ x.sl 8 = .one (.c (.int .i64 (IntKind.wrap .i64 (v8_14 + (1 : Int)))))) ?_ ?_
              · rw [← put_self s3, ← put_self s4, ← put_self s5, ← put_self s6, ← put_self s7, ← put_self s8, ← put_self s107]
                refine mv rfl (by conv => lhs; whnf) rfl ?_
                refine rd (.int .i64 (IntKind.wrap .i64 (v8_14 + (1 : Int)))) rfl rfl rfl rfl rfl ?_
                refine asg rfl (by conv => lhs; whnf) rfl ?_
                refine step_nil ?_
                exact ⟨rfl, rfl, rfl, rfl, rfl, rfl⟩
              clear s3 s4 s5 s6 s7 s8 s107
              intro x hM
              obtain ⟨s3, s4, s5, s6, s7, s8⟩ := hM
              cases h
              show _ ∧ _
              exact ⟨rfl, s3, s4, s5, s6, s7, s8⟩
          · refine c_cf (by rw [← q19]; exact s54) ?_
            refine c_exit ?_
            cases h
            show _ ∧ _
            exact ⟨nofun, rfl, s3, s4, s5, s6, s7, s8, s54⟩
        clear hq
        clear s3 s4 s5 s6 s7 s8
        intro e x hM
        rcases q41 with v2_15 | ⟨v7_16, v8_17, v54_18⟩
        · obtain ⟨rfl, s2⟩ := hM
          cases h
          show _ ∧ _
          rw [← put_self s2]
          exact ⟨.inr rfl, _, rfl, rfl, rfl, rfl⟩
        · obtain ⟨rfl, s3, s4, s5, s6, s7, s8, s54⟩ := hM
          show vcC _ _ _ _ _ _ _
          obtain ⟨v2_42, hr, h⟩ := bind_some h
          refine c_reg (fun x => x.sl 2 = .one (.c (.bool v2_42))) ?_ ?_
          · clear h
            rw [← put_self s3, ← put_self s4, ← put_self s5, ← put_self s6, ← put_self s7, ← put_self s8, ← put_self s54]
            refine mv rfl (by conv => lhs; whnf) rfl ?_
            refine mv rfl (by conv => lhs; whnf) rfl ?_
            refine bif_cases hr (fun q43 hr => ?_) (fun q43 hr => ?_)
            · refine mv (g_ofc rfl (by conv => lhs; whnf) q43 rfl) (by conv => lhs; whnf) rfl ?_
              refine rd (.bool (!decide (c13_3.1 = (1 : Int)))) (g_ofc rfl (by conv => lhs; whnf) q43 rfl) rfl rfl rfl rfl ?_
              refine mv (g_ofc rfl (by conv => lhs; whnf) q43 rfl) (by conv => lhs; whnf) rfl ?_
              refine bif_cases hr (fun q44 hr => ?_) (fun q44 hr => ?_)
              · refine sk (g_ofc rfl (by conv => lhs; whnf) q44 rfl) ?_
                refine sk (g_ofc rfl (by conv => lhs; whnf) q44 rfl) ?_
                refine sk (g_ofc rfl (by conv => lhs; whnf) q44 rfl) ?_
                refine pkc (g_ofc rfl (by conv => lhs; whnf) q43 rfl) (by conv => lhs; whnf) q44 (by conv => lhs; whnf) rfl ?_
                refine pkc rfl (by conv => lhs; whnf) q43 (by conv => lhs; whnf) rfl ?_
                refine mv rfl (by conv => lhs; whnf) rfl ?_
                refine mv (g_ofc rfl (by conv => lhs; whnf) rfl rfl) (by conv => lhs; whnf) rfl ?_
                refine rd (.bool (!decide (c13_3.1 = (2 : Int)))) (g_ofc rfl (by conv => lhs; whnf) rfl rfl) rfl rfl rfl rfl ?_
                refine mv (g_ofc rfl (by conv => lhs; whnf) rfl rfl) (by conv => lhs; whnf) rfl ?_
                refine bif_cases hr (fun q45 hr => ?_) (fun q45 hr => ?_)
                · refine sk (g_ofc rfl (by conv => lhs; whnf) q45 rfl) ?_
                  refine sk (g_ofc rfl (by conv => lhs; whnf) q45 rfl) ?_
                  refine sk (g_ofc rfl (by conv => lhs; whnf) q45 rfl) ?_
                  refine sk (g_ofc rfl (by conv => lhs; whnf) q45 rfl) ?_
                  refine pkc (g_ofc rfl (by conv => lhs; whnf) rfl rfl) (by conv => lhs; whnf) q45 (by conv => lhs; whnf) rfl ?_
                  refine pkc rfl (by conv => lhs; whnf) rfl (by conv => lhs; whnf) rfl ?_
                  refine mv rfl (by conv => lhs; whnf) rfl ?_
                  refine mv (g_ofc rfl (by conv => lhs; whnf) rfl rfl) (by conv => lhs; whnf) rfl ?_
                  refine rd (.bool (!decide (c13_3.1 = (3 : Int)))) (g_ofc rfl (by conv => lhs; whnf) rfl rfl) rfl rfl rfl rfl ?_
                  refine mv (g_ofc rfl (by conv => lhs; whnf) rfl rfl) (by conv => lhs; whnf) rfl ?_
                  refine bif_cases hr (fun q46 hr => ?_) (fun q46 hr => ?_)
                  · refine sk (g_ofc rfl (by conv => lhs; whnf) q46 rfl) ?_
                    refine sk (g_ofc rfl (by conv => lhs; whnf) q46 rfl) ?_
                    refine sk (g_ofc rfl (by conv => lhs; whnf) q46 rfl) ?_
                    refine sk (g_ofc rfl (by conv => lhs; whnf) q46 rfl) ?_
                    refine sk (g_ofc rfl (by conv => lhs; whnf) q46 rfl) ?_
                    refine sk (g_ofc rfl (by conv => lhs; whnf) q46 rfl) ?_
                    refine pkc (g_ofc rfl (by conv => lhs; whnf) rfl rfl) (by conv => lhs; whnf) q46 (by conv => lhs; whnf) rfl ?_
                    refine pkc rfl (by conv => lhs; whnf) rfl (by conv => lhs; whnf) rfl ?_
                    refine asg rfl (by conv => lhs; whnf) rfl ?_
                    refine step_nil ?_
                    cases hr
                    exact rfl
                  · refine mv (g_ofc rfl (by conv => lhs; whnf) q46 rfl) (by conv => lhs; whnf) rfl ?_
                    refine ln (g_ofc rfl (by conv => lhs; whnf) q46 rfl) rfl (by conv => lhs; whnf) rfl ?_
                    refine mv (g_ofc rfl (by conv => lhs; whnf) q46 rfl) (by conv => lhs; whnf) rfl ?_
                    refine mv (g_ofc rfl (by conv => lhs; whnf) q46 rfl) (by conv => lhs; whnf) rfl ?_
                    refine rd (.int .i64 (IntKind.wrap .i64 (c13_3.2.1 - c13_3.2.2))) (g_ofc rfl (by conv => lhs; whnf) q46 rfl) rfl rfl rfl rfl ?_
                    refine rd (.bool (decide ((c20_4.length : Int) = (IntKind.wrap .i64 (c13_3.2.1 - c13_3.2.2))))) (g_ofc rfl (by conv => lhs; whnf) q46 rfl) rfl rfl rfl rfl ?_
                    refine pkc (g_ofc rfl (by conv => lhs; whnf) rfl rfl) (by conv => lhs; whnf) q46 (by conv => lhs; whnf) rfl ?_
                    refine pkc rfl (by conv => lhs; whnf) rfl (by conv => lhs; whnf) rfl ?_
                    refine asg rfl (by conv => lhs; whnf) rfl ?_
                    refine step_nil ?_
                    cases hr
                    exact rfl
                · refine mv (g_ofc rfl (by conv => lhs; whnf) q45 rfl) (by conv => lhs; whnf) rfl ?_
                  refine ln (g_ofc rfl (by conv => lhs; whnf) q45 rfl) rfl (by conv => lhs; whnf) rfl ?_
                  refine mv (g_ofc rfl (by conv => lhs; whnf) q45 rfl) (by conv => lhs; whnf) rfl ?_
                  refine rd (.bool (decide ((c20_4.length : Int) = c13_3.2.1))) (g_ofc rfl (by conv => lhs; whnf) q45 rfl) rfl rfl rfl rfl ?_
                  refine pkc (g_ofc rfl (by conv => lhs; whnf) rfl rfl) (by conv => lhs; whnf) q45 (by conv => lhs; whnf) rfl ?_
                  refine pkc rfl (by conv => lhs; whnf) rfl (by conv => lhs; whnf) rfl ?_
                  refine mv rfl (by conv => lhs; whnf) rfl ?_
                  refine bif_cases hr (fun q47 hr => ?_) (fun q47 hr => ?_)
                  · refine mv (g_ofc rfl (by conv => lhs; whnf) q47 rfl) (by conv => lhs; whnf) rfl ?_
                    refine rd (.bool (!decide (c13_3.1 = (3 : Int)))) (g_ofc rfl (by conv => lhs; whnf) q47 rfl) rfl rfl rfl rfl ?_
                    refine mv (g_ofc rfl (by conv => lhs; whnf) q47 rfl) (by conv => lhs; whnf) rfl ?_
                    refine bif_cases hr (fun q48 hr => ?_) (fun q48 hr => ?_)
                    · refine sk (g_ofc rfl (by conv => lhs; whnf) q48 rfl) ?_
                      refine sk (g_ofc rfl (by conv => lhs; whnf) q48 rfl) ?_
                      refine sk (g_ofc rfl (by conv => lhs; whnf) q48 rfl) ?_
                      refine sk (g_ofc rfl (by conv => lhs; whnf) q48 rfl) ?_
                      refine sk (g_ofc rfl (by conv => lhs; whnf) q48 rfl) ?_
                      refine sk (g_ofc rfl (by conv => lhs; whnf) q48 rfl) ?_
                      refine pkc (g_ofc rfl (by conv => lhs; whnf) q47 rfl) (by conv => lhs; whnf) q48 (by conv => lhs; whnf) rfl ?_
                      refine pkc rfl (by conv => lhs; whnf) q47 (by conv => lhs; whnf) rfl ?_
                      refine asg rfl (by conv => lhs; whnf) rfl ?_
                      refine step_nil ?_
                      cases hr
                      exact rfl
                    · refine mv (g_ofc rfl (by conv => lhs; whnf) q48 rfl) (by conv => lhs; whnf) rfl ?_
                      refine ln (g_ofc rfl (by conv => lhs; whnf) q48 rfl) rfl (by conv => lhs; whnf) rfl ?_
                      refine mv (g_ofc rfl (by conv => lhs; whnf) q48 rfl) (by conv => lhs; whnf) rfl ?_
                      refine mv (g_ofc rfl (by conv => lhs; whnf) q48 rfl) (by conv => lhs; whnf) rfl ?_
                      refine rd (.int .i64 (IntKind.wrap .i64 (c13_3.2.1 - c13_3.2.2))) (g_ofc rfl (by conv => lhs; whnf) q48 rfl) rfl rfl rfl rfl ?_
                      refine rd (.bool (decide ((c20_4.length : Int) = (IntKind.wrap .i64 (c13_3.2.1 - c13_3.2.2))))) (g_ofc rfl (by conv => lhs; whnf) q48 rfl) rfl rfl rfl rfl ?_
                      refine pkc (g_ofc rfl (by conv => lhs; whnf) q47 rfl) (by conv => lhs; whnf) q48 (by conv => lhs; whnf) rfl ?_
                      refine pkc rfl (by conv => lhs; whnf) q47 (by conv => lhs; whnf) rfl ?_
                      refine asg rfl (by conv => lhs; whnf) rfl ?_
                      refine step_nil ?_
                      cases hr
                      exact rfl
                  · refine sk (g_ofc rfl (by conv => lhs; whnf) q47 rfl) ?_
                    refine sk (g_ofc rfl (by conv => lhs; whnf) q47 rfl) ?_
                    refine sk (g_ofc rfl (by conv => lhs; whnf) q47 rfl) ?_
                    refine sk (g_und rfl rfl) ?_
                    refine sk (g_und rfl rfl) ?_
                    refine sk (g_und rfl rfl) ?_
                    refine sk (g_und rfl rfl) ?_
                    refine sk (g_und rfl rfl) ?_
                    refine sk (g_und rfl rfl) ?_
                    refine sk (g_ofc rfl (by conv => lhs; whnf) q47 rfl) ?_
                    refine pkc rfl (by conv => lhs; whnf) q47 (by conv => lhs; whnf) rfl ?_
                    refine asg rfl (by conv => lhs; whnf) rfl ?_
                    refine step_nil ?_
                    cases hr
                    exact rfl
              · refine mv (g_ofc rfl (by conv => lhs; whnf) q44 rfl) (by conv => lhs; whnf) rfl ?_
                refine ln (g_ofc rfl (by conv => lhs; whnf) q44 rfl) rfl (by conv => lhs; whnf) rfl ?_
                refine rd (.bool (decide ((c20_4.length : Int) = (1 : Int)))) (g_ofc rfl (by conv => lhs; whnf) q44 rfl) rfl rfl rfl rfl ?_
                refine pkc (g_ofc rfl (by conv => lhs; whnf) q43 rfl) (by conv => lhs; whnf) q44 (by conv => lhs; whnf) rfl ?_
                refine pkc rfl (by conv => lhs; whnf) q43 (by conv => lhs; whnf) rfl ?_
                refine mv rfl (by conv => lhs; whnf) rfl ?_
                refine bif_cases hr (fun q49 hr => ?_) (fun q49 hr => ?_)
                · refine mv (g_ofc rfl (by conv => lhs; whnf) q49 rfl) (by conv => lhs; whnf) rfl ?_
                  refine rd (.bool (!decide (c13_3.1 = (2 : Int)))) (g_ofc rfl (by conv => lhs; whnf) q49 rfl) rfl rfl rfl rfl ?_
                  refine mv (g_ofc rfl (by conv => lhs; whnf) q49 rfl) (by conv => lhs; whnf) rfl ?_
                  refine bif_cases hr (fun q50 hr => ?_) (fun q50 hr => ?_)
                  · refine sk (g_ofc rfl (by conv => lhs; whnf) q50 rfl) ?_
                    refine sk (g_ofc rfl (by conv => lhs; whnf) q50 rfl) ?_
                    refine sk (g_ofc rfl (by conv => lhs; whnf) q50 rfl) ?_
                    refine sk (g_ofc rfl (by conv => lhs; whnf) q50 rfl) ?_
                    refine pkc (g_ofc rfl (by conv => lhs; whnf) q49 rfl) (by conv => lhs; whnf) q50 (by conv => lhs; whnf) rfl ?_
                    refine pkc rfl (by conv => lhs; whnf) q49 (by conv => lhs; whnf) rfl ?_
                    refine mv rfl (by conv => lhs; whnf) rfl ?_
                    refine mv (g_ofc rfl (by conv => lhs; whnf) rfl rfl) (by conv => lhs; whnf) rfl ?_
                    refine rd (.bool (!decide (c13_3.1 = (3 : Int)))) (g_ofc rfl (by conv => lhs; whnf) rfl rfl) rfl rfl rfl rfl ?_
                    refine mv (g_ofc rfl (by conv => lhs; whnf) rfl rfl) (by conv => lhs; whnf) rfl ?_
                    refine bif_cases hr (fun q51 hr => ?_) (fun q51 hr => ?_)
                    · refine sk (g_ofc rfl (by conv => lhs; whnf) q51 rfl) ?_
                      refine sk (g_ofc rfl (by conv => lhs; whnf) q51 rfl) ?_
                      refine sk (g_ofc rfl (by conv => lhs; whnf) q51 rfl) ?_
                      refine sk (g_ofc rfl (by conv => lhs; whnf) q51 rfl) ?_
                      refine sk (g_ofc rfl (by conv => lhs; whnf) q51 rfl) ?_
                      refine sk (g_ofc rfl (by conv => lhs; whnf) q51 rfl) ?_
                      refine pkc (g_ofc rfl (by conv => lhs; whnf) rfl rfl) (by conv => lhs; whnf) q51 (by conv => lhs; whnf) rfl ?_
                      refine pkc rfl (by conv => lhs; whnf) rfl (by conv => lhs; whnf) rfl ?_
                      refine asg rfl (by conv => lhs; whnf) rfl ?_
                      refine step_nil ?_
                      cases hr
                      exact rfl
                    · refine mv (g_ofc rfl (by conv => lhs; whnf) q51 rfl) (by conv => lhs; whnf) rfl ?_
                      refine ln (g_ofc rfl (by conv => lhs; whnf) q51 rfl) rfl (by conv => lhs; whnf) rfl ?_
                      refine mv (g_ofc rfl (by conv => lhs; whnf) q51 rfl) (by conv => lhs; whnf) rfl ?_
                      refine mv (g_ofc rfl (by conv => lhs; whnf) q51 rfl) (by conv => lhs; whnf) rfl ?_
                      refine rd (.int .i64 (IntKind.wrap .i64 (c13_3.2.1 - c13_3.2.2))) (g_ofc rfl (by conv => lhs; whnf) q51 rfl) rfl rfl rfl rfl ?_
                      refine rd (.bool (decide ((c20_4.length : Int) = (IntKind.wrap .i64 (c13_3.2.1 - c13_3.2.2))))) (g_ofc rfl (by conv => lhs; whnf) q51 rfl) rfl rfl rfl rfl ?_
                      refine pkc (g_ofc rfl (by conv => lhs; whnf) rfl rfl) (by conv => lhs; whnf) q51 (by conv => lhs; whnf) rfl ?_
                      refine pkc rfl (by conv => lhs; whnf) rfl (by conv => lhs; whnf) rfl ?_
                      refine asg rfl (by conv => lhs; whnf) rfl ?_
                      refine step_nil ?_
                      cases hr
                      exact rfl
                  · refine mv (g_ofc rfl (by conv => lhs; whnf) q50 rfl) (by conv => lhs; whnf) rfl ?_
                    refine ln (g_ofc rfl (by conv => lhs; whnf) q50 rfl) rfl (by conv => lhs; whnf) rfl ?_
                    refine mv (g_ofc rfl (by conv => lhs; whnf) q50 rfl) (by conv => lhs; whnf) rfl ?_
                    refine rd (.bool (decide ((c20_4.length : Int) = c13_3.2.1))) (g_ofc rfl (by conv => lhs; whnf) q50 rfl) rfl rfl rfl rfl ?_
                    refine pkc (g_ofc rfl (by conv => lhs; whnf) q49 rfl) (by conv => lhs; whnf) q50 (by conv => lhs; whnf) rfl ?_
                    refine pkc rfl (by conv => lhs; whnf) q49 (by conv => lhs; whnf) rfl ?_
                    refine mv rfl (by conv => lhs; whnf) rfl ?_
                    refine bif_cases hr (fun q52 hr => ?_) (fun q52 hr => ?_)
                    · refine mv (g_ofc rfl (by conv => lhs; whnf) q52 rfl) (by conv => lhs; whnf) rfl ?_
                      refine rd (.bool (!decide (c13_3.1 = (3 : Int)))) (g_ofc rfl (by conv => lhs; whnf) q52 rfl) rfl rfl rfl rfl ?_
                      refine mv (g_ofc rfl (by conv => lhs; whnf) q52 rfl) (by conv => lhs; whnf) rfl ?_
                      refine bif_cases hr (fun q53 hr => ?_) (fun q53 hr => ?_)
                      · refine sk (g_ofc rfl (by conv => lhs; whnf) q53 rfl) ?_
                        refine sk (g_ofc rfl (by conv => lhs; whnf) q53 rfl) ?_
                        refine sk (g_ofc rfl (by conv => lhs; whnf) q53 rfl) ?_
                        refine sk (g_ofc rfl (by conv => lhs; whnf) q53 rfl) ?_
                        refine sk (g_ofc rfl (by conv => lhs; whnf) q53 rfl) ?_
                        refine sk (g_ofc rfl (by conv => lhs; whnf) q53 rfl) ?_
                        refine pkc (g_ofc rfl (by conv => lhs; whnf) q52 rfl) (by conv => lhs; whnf) q53 (by conv => lhs; whnf) rfl ?_
                        refine pkc rfl (by conv => lhs; whnf) q52 (by conv => lhs; whnf) rfl ?_
                        refine asg rfl (by conv => lhs; whnf) rfl ?_
                        refine step_nil ?_
                        cases hr
                        exact rfl
                      · refine mv (g_ofc rfl (by conv => lhs; whnf) q53 rfl) (by conv => lhs; whnf) rfl ?_
                        refine ln (g_ofc rfl (by conv => lhs; whnf) q53 rfl) rfl (by conv => lhs; whnf) rfl ?_
                        refine mv (g_ofc rfl (by conv => lhs; whnf) q53 rfl) (by conv => lhs; whnf) rfl ?_
                        refine mv (g_ofc rfl (by conv => lhs; whnf) q53 rfl) (by conv => lhs; whnf) rfl ?_
                        refine rd (.int .i64 (IntKind.wrap .i64 (c13_3.2.1 - c13_3.2.2))) (g_ofc rfl (by conv => lhs; whnf) q53 rfl) rfl rfl rfl rfl ?_
                        refine rd (.bool (decide ((c20_4.length : Int) = (IntKind.wrap .i64 (c13_3.2.1 - c13_3.2.2))))) (g_ofc rfl (by conv => lhs; whnf) q53 rfl) rfl rfl rfl rfl ?_
                        refine pkc (g_ofc rfl (by conv => lhs; whnf) q52 rfl) (by conv => lhs; whnf) q53 (by conv => lhs; whnf) rfl ?_
                        refine pkc rfl (by conv => lhs; whnf) q52 (by conv => lhs; whnf) rfl ?_
                        refine asg rfl (by conv => lhs; whnf) rfl ?_
                        refine step_nil ?_
                        cases hr
                        exact rfl
                    · refine sk (g_ofc rfl (by conv => lhs; whnf) q52 rfl) ?_
                      refine sk (g_ofc rfl (by conv => lhs; whnf) q52 rfl) ?_
                      refine sk (g_ofc rfl (by conv => lhs; whnf) q52 rfl) ?_
                      refine sk (g_und rfl rfl) ?_
                      refine sk (g_und rfl rfl) ?_
                      refine sk (g_und rfl rfl) ?_
                      refine sk (g_und rfl rfl) ?_
                      refine sk (g_und rfl rfl) ?_
                      refine sk (g_und rfl rfl) ?_
                      refine sk (g_ofc rfl (by conv => lhs; whnf) q52 rfl) ?_
                      refine pkc rfl (by conv => lhs; whnf) q52 (by conv => lhs; whnf) rfl ?_
                      refine asg rfl (by conv => lhs; whnf) rfl ?_
                      refine step_nil ?_
                      cases hr
                      exact rfl
                · refine sk (g_ofc rfl (by conv => lhs; whnf) q49 rfl) ?_
                  refine sk (g_ofc rfl (by conv => lhs; whnf) q49 rfl) ?_
                  refine sk (g_ofc rfl (by conv => lhs; whnf) q49 rfl) ?_
                  refine sk (g_und rfl rfl) ?_
                  refine sk (g_und rfl rfl) ?_
                  refine sk (g_und rfl rfl) ?_
                  refine sk (g_und rfl rfl) ?_
                  refine sk (g_ofc rfl (by conv => lhs; whnf) q49 rfl) ?_
                  refine pkc rfl (by conv => lhs; whnf) q49 (by conv => lhs; whnf) rfl ?_
                  refine mv rfl (by conv => lhs; whnf) rfl ?_
                  refine sk (g_ofc rfl (by conv => lhs; whnf) rfl rfl) ?_
                  refine sk (g_ofc rfl (by conv => lhs; whnf) rfl rfl) ?_
                  refine sk (g_ofc rfl (by conv => lhs; whnf) rfl rfl) ?_
                  refine sk (g_und rfl rfl) ?_
                  refine sk (g_und rfl rfl) ?_
                  refine sk (g_und rfl rfl) ?_
                  refine sk (g_und rfl rfl) ?_
                  refine sk (g_und rfl rfl) ?_
                  refine sk (g_und rfl rfl) ?_
                  refine sk (g_ofc rfl (by conv => lhs; whnf) rfl rfl) ?_
                  refine pkc rfl (by conv => lhs; whnf) rfl (by conv => lhs; whnf) rfl ?_
                  refine asg rfl (by conv => lhs; whnf) rfl ?_
                  refine step_nil ?_
                  cases hr
                  exact rfl
            · refine sk (g_ofc rfl (by conv => lhs; whnf) q43 rfl) ?_
              refine sk (g_ofc rfl (by conv => lhs; whnf) q43 rfl) ?_
              refine sk (g_ofc rfl (by conv => lhs; whnf) q43 rfl) ?_
              refine sk (g_und rfl rfl) ?_
              refine sk (g_und rfl rfl) ?_
              refine sk (g_und rfl rfl) ?_
              refine sk (g_ofc rfl (by conv => lhs; whnf) q43 rfl) ?_
              refine pkc rfl (by conv => lhs; whnf) q43 (by conv => lhs; whnf) rfl ?_
              refine mv rfl (by conv => lhs; whnf) rfl ?_
              refine sk (g_ofc rfl (by conv => lhs; whnf) rfl rfl) ?_
              refine sk (g_ofc rfl (by conv => lhs; whnf) rfl rfl) ?_
              refine sk (g_ofc rfl (by conv => lhs; whnf) rfl rfl) ?_
              refine sk (g_und rfl rfl) ?_
              refine sk (g_und rfl rfl) ?_
              refine sk (g_und rfl rfl) ?_
              refine sk (g_und rfl rfl) ?_
              refine sk (g_ofc rfl (by conv => lhs; whnf) rfl rfl) ?_
              refine pkc rfl (by conv => lhs; whnf) rfl (by conv => lhs; whnf) rfl ?_
              refine mv rfl (by conv => lhs; whnf) rfl ?_
              refine sk (g_ofc rfl (by conv => lhs; whnf) rfl rfl) ?_
              refine sk (g_ofc rfl (by conv => lhs; whnf) rfl rfl) ?_
              refine sk (g_ofc rfl (by conv => lhs; whnf) rfl rfl) ?_
              refine sk (g_und rfl rfl) ?_
              refine sk (g_und rfl rfl) ?_
              refine sk (g_und rfl rfl) ?_
              refine sk (g_und rfl rfl) ?_
              refine sk (g_und rfl rfl) ?_
              refine sk (g_und rfl rfl) ?_
              refine sk (g_ofc rfl (by conv => lhs; whnf) rfl rfl) ?_
              refine pkc rfl (by conv => lhs; whnf) rfl (by conv => lhs; whnf) rfl ?_
              refine asg rfl (by conv => lhs; whnf) rfl ?_
              refine step_nil ?_
              cases hr
              exact rfl
          clear hr
          clear s3 s4 s5 s6 s7 s8 s54
          intro x s2
          refine c_ret ?_
          cases h
          show _ ∧ _
          rw [← put_self s2]
          exact ⟨.inr rfl, _, rfl, rfl, rfl, rfl⟩
end Go.Own
