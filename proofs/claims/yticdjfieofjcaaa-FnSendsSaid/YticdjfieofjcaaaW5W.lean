/- Each function on plain data, and its walk. No conditions. -/
import Derived.Test.YticdjfieofjcaaaW5A
set_option linter.unusedVariables false
set_option linter.unusedSimpArgs false
set_option linter.unnecessarySimpa false
namespace Go.Own
open Go Go.Proofs
def rI_u8 (a : Int) : List T := [.int .u8 a]
def rI_i64 (a : Int) : List T := [.int .i64 a]
def rStr (a : List UInt8) : List T := [.str a]
inductive S_impl_Term where
  | mk (f0 : Int) (f1 : Int) (f2 : List UInt8) (f3 : List S_impl_Term)
def S_impl_Term.f0 : S_impl_Term → Int
  | .mk a _ _ _ => a
def S_impl_Term.f1 : S_impl_Term → Int
  | .mk _ a _ _ => a
def S_impl_Term.f2 : S_impl_Term → List UInt8
  | .mk _ _ a _ => a
def S_impl_Term.f3 : S_impl_Term → List S_impl_Term
  | .mk _ _ _ a => a
mutual
def rS_impl_Term : S_impl_Term → List T
  | .mk a0 a1 a2 a3 => [.int .i64 a0, .int .i64 a1, .str a2, .sl (rS_impl_Terms a3)]
def rS_impl_Terms : List S_impl_Term → List (List T)
  | [] => []
  | x :: r => rS_impl_Term x :: rS_impl_Terms r
end
theorem rS_impl_Terms_map : ∀ l : List S_impl_Term, rS_impl_Terms l = l.map rS_impl_Term
  | [] => by simp [rS_impl_Terms]
  | x :: r => by simp [rS_impl_Terms, rS_impl_Terms_map r]
theorem rS_impl_Term_eq (a : S_impl_Term) : rS_impl_Term a = [.int .i64 a.f0, .int .i64 a.f1, .str a.f2, .sl (a.f3.map rS_impl_Term)] := by
  cases a
  simp [rS_impl_Term, rS_impl_Terms_map, S_impl_Term.f0, S_impl_Term.f1, S_impl_Term.f2, S_impl_Term.f3]
theorem rS_impl_Term_mk (a0 : Int) (a1 : Int) (a2 : List UInt8) (a3 : List S_impl_Term) : rS_impl_Term (.mk a0 a1 a2 a3) = [.int .i64 a0, .int .i64 a1, .str a2, .sl (a3.map rS_impl_Term)] := by simp [rS_impl_Term, rS_impl_Terms_map]
structure S_impl_Send where
  f0 : Int
  f1 : Int
  f2 : List UInt8
  f3 : List S_impl_Term
  f4 : Int
  f5 : Int
  f6 : List UInt8
  f7 : List S_impl_Term
def rS_impl_Send (a : S_impl_Send) : List T := [.int .i64 a.f0, .int .i64 a.f1, .str a.f2, .sl (a.f3.map rS_impl_Term), .int .i64 a.f4, .int .i64 a.f5, .str a.f6, .sl (a.f7.map rS_impl_Term)]
theorem rS_impl_Send_eq (a : S_impl_Send) : rS_impl_Send a = [.int .i64 a.f0, .int .i64 a.f1, .str a.f2, .sl (a.f3.map rS_impl_Term), .int .i64 a.f4, .int .i64 a.f5, .str a.f6, .sl (a.f7.map rS_impl_Term)] := rfl
def p_laws_big (n : Nat) (t0_0 : List Int) : Option (Bool) :=
  some (decide ((1048576 : Int) < (t0_0.length : Int)))
theorem big_laws_big {n : Nat} {t0_0 : List Int} {r : Bool} (h : p_laws_big n t0_0 = some r) : Big Try.prog τ An (.fn 18 [.one (.c (.sl (t0_0.map rI_u8)))] [] (.one (.c (.bool r))) none [] none) := by
  unfold p_laws_big at h
  refine Big.of Try.func18 rfl rfl rfl rfl ?_
  have s0 : (DA [.one (.c (.sl (t0_0.map rI_u8)))] []).sl 0 = .one (.c (.sl (t0_0.map rI_u8))) := rfl
  generalize DA [.one (.c (.sl (t0_0.map rI_u8)))] [] = x at s0 ⊢
  refine c_reg (fun x => x.sl 0 = .one (.c (.sl (t0_0.map rI_u8)))) ?_ ?_
  · rw [← put_self s0]
    refine asg rfl (by conv => lhs; whnf) rfl ?_
    refine step_nil ?_
    exact rfl
  clear s0
  intro x s0
  refine c_reg (fun x => x.sl 2 = .one (.c (.bool (decide ((1048576 : Int) < (t0_0.length : Int)))))) ?_ ?_
  · rw [← put_self s0]
    refine mv rfl (by conv => lhs; whnf) rfl ?_
    refine ln rfl rfl (by conv => lhs; whnf) rfl ?_
    refine rd (.bool (decide ((1048576 : Int) < (t0_0.length : Int)))) rfl rfl rfl rfl rfl ?_
    refine asg rfl (by conv => lhs; whnf) rfl ?_
    refine step_nil ?_
    exact rfl
  clear s0
  intro x s2
  refine c_ret ?_
  cases h
  show _ ∧ _
  rw [← put_self s2]
  exact ⟨.inr rfl, _, rfl, rfl, rfl, rfl⟩
def p_spec_l1New_b1 (n : Nat) (t0_0 : List Int) : (Int × Int) → Option ((Int × Int) ⊕ ((Int × Int × Bool)))
  | (v3_1, v4_2) => (bif decide (v4_2 < (t0_0.length : Int)) then some (decide (v4_2 < (4000 : Int))) else some false).bind fun v15_6 => bif v15_6 then (ix t0_0 v4_2).bind fun e22_9 => some (.inl ((bits .and .i64 (IntKind.wrap .i64 ((IntKind.wrap .i64 ((IntKind.wrap .i64 (v3_1 * (137 : Int))) + (IntKind.wrap .i64 e22_9))) + (11 : Int))) (1073741823 : Int)), (IntKind.wrap .i64 (v4_2 + (1 : Int))))) else some (.inr (v3_1, v4_2, v15_6))
def p_spec_l1New (n : Nat) (t0_0 : List Int) : Option ((List Int) × Int × Int) :=
  (loopN (p_spec_l1New_b1 n t0_0) n ((IntKind.wrap .i64 ((375375 : Int) + (t0_0.length : Int))), (0 : Int))).bind fun (v3_3, v4_4, v15_5) => some (t0_0, (0 : Int), v3_3)
theorem big_spec_l1New {n : Nat} {t0_0 : List Int} {r : (List Int) × Int × Int} (h : p_spec_l1New n t0_0 = some r) : Big Try.prog τ An (.fn 58 [.one (.c (.sl (t0_0.map rI_u8)))] [] (.one (.ptr 0 0)) none [] (some [.sl (r.1.map rI_u8), .int .i64 r.2.1, .int .i64 r.2.2])) := by
  unfold p_spec_l1New at h
  refine Big.of Try.func58 rfl rfl rfl rfl ?_
  have s0 : (DA [.one (.c (.sl (t0_0.map rI_u8)))] []).sl 0 = .one (.c (.sl (t0_0.map rI_u8))) := rfl
  generalize DA [.one (.c (.sl (t0_0.map rI_u8)))] [] = x at s0 ⊢
  refine c_reg (fun x => x.sl 0 = .one (.c (.sl (t0_0.map rI_u8)))) ?_ ?_
  · rw [← put_self s0]
    refine asg rfl (by conv => lhs; whnf) rfl ?_
    refine step_nil ?_
    exact rfl
  clear s0
  intro x s0
  refine c_reg (fun x => x.sl 0 = .one (.c (.sl (t0_0.map rI_u8))) ∧ x.sl 3 = .one (.c (.int .i64 (IntKind.wrap .i64 ((375375 : Int) + (t0_0.length : Int)))))) ?_ ?_
  · rw [← put_self s0]
    refine mv rfl (by conv => lhs; whnf) rfl ?_
    refine ln rfl rfl (by conv => lhs; whnf) rfl ?_
    refine rd (.int .i64 (IntKind.wrap .i64 ((375375 : Int) + (t0_0.length : Int)))) rfl rfl rfl rfl rfl ?_
    refine asg rfl (by conv => lhs; whnf) rfl ?_
    refine step_nil ?_
    exact ⟨rfl, rfl⟩
  clear s0
  intro x hM
  obtain ⟨s0, s3⟩ := hM
  refine c_seq ?_
  refine c_reg (fun x => x.sl 0 = .one (.c (.sl (t0_0.map rI_u8))) ∧ x.sl 3 = .one (.c (.int .i64 (IntKind.wrap .i64 ((375375 : Int) + (t0_0.length : Int))))) ∧ x.sl 4 = .one (.c (.int .i64 0))) ?_ ?_
  · rw [← put_self s0, ← put_self s3]
    refine asg rfl (by conv => lhs; whnf) rfl ?_
    refine step_nil ?_
    exact ⟨rfl, rfl, rfl⟩
  clear s0 s3
  intro x hM
  obtain ⟨s0, s3, s4⟩ := hM
  obtain ⟨q10, hq, h⟩ := bind_some h
  refine c_block ?_
  refine Wd.loopN (fun s x => match (generalizing := false) s with | (v3_1, v4_2) => x.sl 0 = .one (.c (.sl (t0_0.map rI_u8))) ∧ x.sl 3 = .one (.c (.int .i64 v3_1)) ∧ x.sl 4 = .one (.c (.int .i64 v4_2))) (fun q e x => match (generalizing := false) q with | (v3_3, v4_4, v15_5) => e = .e 0 ∧ x.sl 0 = .one (.c (.sl (t0_0.map rI_u8))) ∧ x.sl 3 = .one (.c (.int .i64 v3_3)) ∧ x.sl 4 = .one (.c (.int .i64 v4_4)) ∧ x.sl 15 = .one (.c (.bool v15_5))) ?_ hq (⟨s0, s3, s4⟩) ?_
  · clear h hq
    clear s0 s3 s4
    intro st o x hR h
    obtain ⟨v3_1, v4_2⟩ := st
    obtain ⟨s0, s3, s4⟩ := hR
    unfold p_spec_l1New_b1 at h
    refine c_seq ?_
    obtain ⟨v15_6, hr, h⟩ := bind_some h
    refine c_reg (fun x => x.sl 0 = .one (.c (.sl (t0_0.map rI_u8))) ∧ x.sl 3 = .one (.c (.int .i64 v3_1)) ∧ x.sl 4 = .one (.c (.int .i64 v4_2)) ∧ x.sl 15 = .one (.c (.bool v15_6))) ?_ ?_
    · clear h
      rw [← put_self s0, ← put_self s3, ← put_self s4]
      refine mv rfl (by conv => lhs; whnf) rfl ?_
      refine mv rfl (by conv => lhs; whnf) rfl ?_
      refine ln rfl rfl (by conv => lhs; whnf) rfl ?_
      refine rd (.bool (decide (v4_2 < (t0_0.length : Int)))) rfl rfl rfl rfl rfl ?_
      refine mv rfl (by conv => lhs; whnf) rfl ?_
      refine bif_cases hr (fun q7 hr => ?_) (fun q7 hr => ?_)
      · refine mv (g_ofc rfl (by conv => lhs; whnf) q7 rfl) (by conv => lhs; whnf) rfl ?_
        refine rd (.bool (decide (v4_2 < (4000 : Int)))) (g_ofc rfl (by conv => lhs; whnf) q7 rfl) rfl rfl rfl rfl ?_
        refine pkc rfl (by conv => lhs; whnf) q7 (by conv => lhs; whnf) rfl ?_
        refine step_nil ?_
        cases hr
        exact ⟨rfl, rfl, rfl, rfl⟩
      · refine sk (g_ofc rfl (by conv => lhs; whnf) q7 rfl) ?_
        refine sk (g_ofc rfl (by conv => lhs; whnf) q7 rfl) ?_
        refine pkc rfl (by conv => lhs; whnf) q7 (by conv => lhs; whnf) rfl ?_
        refine step_nil ?_
        cases hr
        exact ⟨rfl, rfl, rfl, rfl⟩
    clear hr
    clear s0 s3 s4
    intro x hM
    obtain ⟨s0, s3, s4, s15⟩ := hM
    refine bif_cases h (fun q8 h => ?_) (fun q8 h => ?_)
    · refine c_ct (by rw [← q8]; exact s15) ?_
      refine c_skip ?_
      show vcC _ _ _ _ _ _ _
      refine c_seq ?_
      refine c_block ?_
      obtain ⟨e22_9, ke22_9, h⟩ := bind_some h
      refine c_regl (fun x => x.sl 0 = .one (.c (.sl (t0_0.map rI_u8))) ∧ x.sl 3 = .one (.c (.int .i64 (bits .and .i64 (IntKind.wrap .i64 ((IntKind.wrap .i64 ((IntKind.wrap .i64 (v3_1 * (137 : Int))) + (IntKind.wrap .i64 e22_9))) + (11 : Int))) (1073741823 : Int)))) ∧ x.sl 4 = .one (.c (.int .i64 v4_2))) ?_ ?_
      · rw [← put_self s0, ← put_self s3, ← put_self s4, ← put_self s15]
        refine mv rfl (by conv => lhs; whnf) rfl ?_
        refine rd (.int .i64 (IntKind.wrap .i64 (v3_1 * (137 : Int)))) rfl rfl rfl rfl rfl ?_
        refine mv rfl (by conv => lhs; whnf) rfl ?_
        refine mv rfl (by conv => lhs; whnf) rfl ?_
        refine ixa (f := rI_u8) (row := [.int .u8 e22_9]) ke22_9 rfl rfl rfl (by conv => lhs; whnf) (by conv => lhs; whnf) rfl rfl rfl ?_
        refine ldc (w := .one (.c (.int .u8 e22_9))) rfl rfl (by conv => lhs; whnf) rfl rfl ?_
        refine rd (.int .i64 (IntKind.wrap .i64 e22_9)) rfl rfl rfl rfl rfl ?_
        refine rd (.int .i64 (IntKind.wrap .i64 ((IntKind.wrap .i64 (v3_1 * (137 : Int))) + (IntKind.wrap .i64 e22_9)))) rfl rfl rfl rfl rfl ?_
        refine rd (.int .i64 (IntKind.wrap .i64 ((IntKind.wrap .i64 ((IntKind.wrap .i64 (v3_1 * (137 : Int))) + (IntKind.wrap .i64 e22_9))) + (11 : Int)))) rfl rfl rfl rfl rfl ?_
        refine rd (.int .i64 (bits .and .i64 (IntKind.wrap .i64 ((IntKind.wrap .i64 ((IntKind.wrap .i64 (v3_1 * (137 : Int))) + (IntKind.wrap .i64 e22_9))) + (11 : Int))) (1073741823 : Int))) rfl rfl rfl rfl rfl ?_
        refine asg rfl (by conv => lhs; whnf) rfl ?_
        refine step_nil ?_
        exact ⟨rfl, rfl, rfl⟩
      clear s0 s3 s4 s15
      intro x hM
      obtain ⟨s0, s3, s4⟩ := hM
      show vcC _ _ _ _ _ _ _
      refine c_regl (fun x => x.sl 0 = .one (.c (.sl (t0_0.map rI_u8))) ∧ x.sl 3 = .one (.c (.int .i64 (bits .and .i64 (IntKind.wrap .i64 ((IntKind.wrap .i64 ((IntKind.wrap .i64 (v3_1 * (137 : Int))) + (IntKind.wrap .i64 e22_9))) + (11 : Int))) (1073741823 : Int)))) ∧ x.sl 4 = .one (.c (.int .i64 (IntKind.wrap .i64 (v4_2 + (1 : Int)))))) ?_ ?_
      · rw [← put_self s0, ← put_self s3, ← put_self s4]
        refine mv rfl (by conv => lhs; whnf) rfl ?_
        refine rd (.int .i64 (IntKind.wrap .i64 (v4_2 + (1 : Int)))) rfl rfl rfl rfl rfl ?_
        refine asg rfl (by conv => lhs; whnf) rfl ?_
        refine step_nil ?_
        exact ⟨rfl, rfl, rfl⟩
      clear s0 s3 s4
      intro x hM
      obtain ⟨s0, s3, s4⟩ := hM
      cases h
      show _ ∧ _
      exact ⟨rfl, s0, s3, s4⟩
    · refine c_cf (by rw [← q8]; exact s15) ?_
      refine c_exit ?_
      cases h
      show _ ∧ _
      exact ⟨nofun, rfl, s0, s3, s4, s15⟩
  clear hq
  clear s0 s3 s4
  intro e x hM
  obtain ⟨v3_3, v4_4, v15_5⟩ := q10
  obtain ⟨rfl, s0, s3, s4, s15⟩ := hM
  show vcC _ _ _ _ _ _ _
  refine c_reg (fun x => x.sl 2 = .one (.ptr 31 0) ∧ x.ob 31 = some [.sl (t0_0.map rI_u8), .int .i64 0, .int .i64 v3_3]) ?_ ?_
  · rw [← put_self s0, ← put_self s3, ← put_self s4, ← put_self s15]
    refine mv rfl (by conv => lhs; whnf) rfl ?_
    refine mv rfl (by conv => lhs; whnf) rfl ?_
    refine bld (rs := [.sl (t0_0.map rI_u8), .int .i64 0, .int .i64 v3_3]) rfl rfl rfl rfl rfl ?_
    refine bx (xs := [.sl (t0_0.map rI_u8), .int .i64 0, .int .i64 v3_3]) rfl (by conv => lhs; whnf) rfl rfl ?_
    refine asg rfl (by conv => lhs; whnf) rfl ?_
    refine step_nil ?_
    exact ⟨rfl, rfl⟩
  clear s0 s3 s4 s15
  intro x hM
  obtain ⟨s2, o31⟩ := hM
  refine c_ret ?_
  cases h
  show _ ∧ _
  rw [← put_self s2, ← setO_self o31]
  exact ⟨.inr rfl, _, rfl, rfl, rfl, rfl⟩
def p_spec_l1Byte (n : Nat) (o0_0 : List Int) (o0_1 : Int) (o0_2 : Int) : Option (Int × (List Int) × Int × Int) :=
  bif decide (o0_1 < (o0_0.length : Int)) then (ix o0_0 o0_1).bind fun e44_2 => some ((bits .and .i64 (IntKind.wrap .i64 ((bits .and .i64 (bits .xor .i64 (Int.fdiv (IntKind.wrap .i64 ((IntKind.wrap .i64 (o0_2 * (6364136223846793005 : Int))) + (1442695040888963407 : Int))) (2 ^ 33)) (Int.fdiv (IntKind.wrap .i64 ((IntKind.wrap .i64 (o0_2 * (6364136223846793005 : Int))) + (1442695040888963407 : Int))) (2 ^ 47))) (255 : Int)) + (IntKind.wrap .i64 e44_2))) (255 : Int)), o0_0, (IntKind.wrap .i64 (o0_1 + (1 : Int))), (IntKind.wrap .i64 ((IntKind.wrap .i64 (o0_2 * (6364136223846793005 : Int))) + (1442695040888963407 : Int)))) else some ((bits .and .i64 (bits .xor .i64 (Int.fdiv (IntKind.wrap .i64 ((IntKind.wrap .i64 (o0_2 * (6364136223846793005 : Int))) + (1442695040888963407 : Int))) (2 ^ 33)) (Int.fdiv (IntKind.wrap .i64 ((IntKind.wrap .i64 (o0_2 * (6364136223846793005 : Int))) + (1442695040888963407 : Int))) (2 ^ 47))) (255 : Int)), o0_0, o0_1, (IntKind.wrap .i64 ((IntKind.wrap .i64 (o0_2 * (6364136223846793005 : Int))) + (1442695040888963407 : Int))))
theorem big_spec_l1Byte {n : Nat} {o0_0 : List Int} {o0_1 : Int} {o0_2 : Int} {r : Int × (List Int) × Int × Int} (h : p_spec_l1Byte n o0_0 o0_1 o0_2 = some r) : Big Try.prog τ An (.fn 104 [.one (.ptr 1000000 0)] [[.sl (o0_0.map rI_u8), .int .i64 o0_1, .int .i64 o0_2]] (.one (.c (.int .i64 r.1))) none [[.sl (r.2.1.map rI_u8), .int .i64 r.2.2.1, .int .i64 r.2.2.2]] none) := by
  unfold p_spec_l1Byte at h
  refine Big.of Try.func104 rfl rfl rfl rfl ?_
  have s0 : (DA [.one (.ptr 1000000 0)] [[.sl (o0_0.map rI_u8), .int .i64 o0_1, .int .i64 o0_2]]).sl 0 = .one (.ptr 1000000 0) := rfl
  have o1000000 : (DA [.one (.ptr 1000000 0)] [[.sl (o0_0.map rI_u8), .int .i64 o0_1, .int .i64 o0_2]]).ob 1000000 = some [.sl (o0_0.map rI_u8), .int .i64 o0_1, .int .i64 o0_2] := rfl
  generalize DA [.one (.ptr 1000000 0)] [[.sl (o0_0.map rI_u8), .int .i64 o0_1, .int .i64 o0_2]] = x at s0 o1000000 ⊢
  refine c_reg (fun x => x.sl 0 = .one (.ptr 1000000 0) ∧ x.ob 1000000 = some [.sl (o0_0.map rI_u8), .int .i64 o0_1, .int .i64 o0_2]) ?_ ?_
  · rw [← put_self s0, ← setO_self o1000000]
    refine asg rfl (by conv => lhs; whnf) rfl ?_
    refine step_nil ?_
    exact ⟨rfl, rfl⟩
  clear s0 o1000000
  intro x hM
  obtain ⟨s0, o1000000⟩ := hM
  refine c_reg (fun x => x.sl 0 = .one (.ptr 1000000 0) ∧ x.ob 1000000 = some [.sl (o0_0.map rI_u8), .int .i64 o0_1, .int .i64 (IntKind.wrap .i64 ((IntKind.wrap .i64 (o0_2 * (6364136223846793005 : Int))) + (1442695040888963407 : Int)))]) ?_ ?_
  · rw [← put_self s0, ← setO_self o1000000]
    refine mv rfl (by conv => lhs; whnf) rfl ?_
    refine mv rfl (by conv => lhs; whnf) rfl ?_
    refine nlc rfl (by conv => lhs; whnf) rfl rfl ?_
    refine fld (u := .one (.ptr 1000000 2)) rfl rfl rfl (by conv => lhs; whnf) rfl rfl ?_
    refine ldo (w := .one (.c (.int .i64 o0_2))) rfl rfl rfl (by conv => lhs; whnf) rfl rfl rfl ?_
    refine rd (.int .i64 (IntKind.wrap .i64 (o0_2 * (6364136223846793005 : Int)))) rfl rfl rfl rfl rfl ?_
    refine rd (.int .i64 (IntKind.wrap .i64 ((IntKind.wrap .i64 (o0_2 * (6364136223846793005 : Int))) + (1442695040888963407 : Int)))) rfl rfl rfl rfl rfl ?_
    refine nlc rfl (by conv => lhs; whnf) rfl rfl ?_
    refine fld (u := .one (.ptr 1000000 2)) rfl rfl rfl (by conv => lhs; whnf) rfl rfl ?_
    refine sto (cs := [.sl (o0_0.map rI_u8), .int .i64 o0_1, .int .i64 (IntKind.wrap .i64 ((IntKind.wrap .i64 (o0_2 * (6364136223846793005 : Int))) + (1442695040888963407 : Int)))]) rfl rfl (by conv => lhs; whnf) rfl rfl rfl rfl ?_
    refine step_nil ?_
    exact ⟨rfl, rfl⟩
  clear s0 o1000000
  intro x hM
  obtain ⟨s0, o1000000⟩ := hM
  refine c_reg (fun x => x.sl 0 = .one (.ptr 1000000 0) ∧ x.sl 3 = .one (.c (.int .i64 (bits .and .i64 (bits .xor .i64 (Int.fdiv (IntKind.wrap .i64 ((IntKind.wrap .i64 (o0_2 * (6364136223846793005 : Int))) + (1442695040888963407 : Int))) (2 ^ 33)) (Int.fdiv (IntKind.wrap .i64 ((IntKind.wrap .i64 (o0_2 * (6364136223846793005 : Int))) + (1442695040888963407 : Int))) (2 ^ 47))) (255 : Int)))) ∧ x.ob 1000000 = some [.sl (o0_0.map rI_u8), .int .i64 o0_1, .int .i64 (IntKind.wrap .i64 ((IntKind.wrap .i64 (o0_2 * (6364136223846793005 : Int))) + (1442695040888963407 : Int)))]) ?_ ?_
  · rw [← put_self s0, ← setO_self o1000000]
    refine mv rfl (by conv => lhs; whnf) rfl ?_
    refine nlc rfl (by conv => lhs; whnf) rfl rfl ?_
    refine fld (u := .one (.ptr 1000000 2)) rfl rfl rfl (by conv => lhs; whnf) rfl rfl ?_
    refine ldo (w := .one (.c (.int .i64 (IntKind.wrap .i64 ((IntKind.wrap .i64 (o0_2 * (6364136223846793005 : Int))) + (1442695040888963407 : Int)))))) rfl rfl rfl (by conv => lhs; whnf) rfl rfl rfl ?_
    refine rd (.int .i64 (Int.fdiv (IntKind.wrap .i64 ((IntKind.wrap .i64 (o0_2 * (6364136223846793005 : Int))) + (1442695040888963407 : Int))) (2 ^ 33))) rfl rfl rfl rfl rfl ?_
    refine mv rfl (by conv => lhs; whnf) rfl ?_
    refine nlc rfl (by conv => lhs; whnf) rfl rfl ?_
    refine fld (u := .one (.ptr 1000000 2)) rfl rfl rfl (by conv => lhs; whnf) rfl rfl ?_
    refine ldo (w := .one (.c (.int .i64 (IntKind.wrap .i64 ((IntKind.wrap .i64 (o0_2 * (6364136223846793005 : Int))) + (1442695040888963407 : Int)))))) rfl rfl rfl (by conv => lhs; whnf) rfl rfl rfl ?_
    refine rd (.int .i64 (Int.fdiv (IntKind.wrap .i64 ((IntKind.wrap .i64 (o0_2 * (6364136223846793005 : Int))) + (1442695040888963407 : Int))) (2 ^ 47))) rfl rfl rfl rfl rfl ?_
    refine rd (.int .i64 (bits .xor .i64 (Int.fdiv (IntKind.wrap .i64 ((IntKind.wrap .i64 (o0_2 * (6364136223846793005 : Int))) + (1442695040888963407 : Int))) (2 ^ 33)) (Int.fdiv (IntKind.wrap .i64 ((IntKind.wrap .i64 (o0_2 * (6364136223846793005 : Int))) + (1442695040888963407 : Int))) (2 ^ 47)))) rfl rfl rfl rfl rfl ?_
    refine rd (.int .i64 (bits .and .i64 (bits .xor .i64 (Int.fdiv (IntKind.wrap .i64 ((IntKind.wrap .i64 (o0_2 * (6364136223846793005 : Int))) + (1442695040888963407 : Int))) (2 ^ 33)) (Int.fdiv (IntKind.wrap .i64 ((IntKind.wrap .i64 (o0_2 * (6364136223846793005 : Int))) + (1442695040888963407 : Int))) (2 ^ 47))) (255 : Int))) rfl rfl rfl rfl rfl ?_
    refine asg rfl (by conv => lhs; whnf) rfl ?_
    refine step_nil ?_
    exact ⟨rfl, rfl, rfl⟩
  clear s0 o1000000
  intro x hM
  obtain ⟨s0, s3, o1000000⟩ := hM
  refine c_seq ?_
  refine c_reg (fun x => x.sl 0 = .one (.ptr 1000000 0) ∧ x.sl 3 = .one (.c (.int .i64 (bits .and .i64 (bits .xor .i64 (Int.fdiv (IntKind.wrap .i64 ((IntKind.wrap .i64 (o0_2 * (6364136223846793005 : Int))) + (1442695040888963407 : Int))) (2 ^ 33)) (Int.fdiv (IntKind.wrap .i64 ((IntKind.wrap .i64 (o0_2 * (6364136223846793005 : Int))) + (1442695040888963407 : Int))) (2 ^ 47))) (255 : Int)))) ∧ x.sl 34 = .one (.c (.bool (decide (o0_1 < (o0_0.length : Int))))) ∧ x.ob 1000000 = some [.sl (o0_0.map rI_u8), .int .i64 o0_1, .int .i64 (IntKind.wrap .i64 ((IntKind.wrap .i64 (o0_2 * (6364136223846793005 : Int))) + (1442695040888963407 : Int)))]) ?_ ?_
  · rw [← put_self s0, ← put_self s3, ← setO_self o1000000]
    refine mv rfl (by conv => lhs; whnf) rfl ?_
    refine nlc rfl (by conv => lhs; whnf) rfl rfl ?_
    refine fld (u := .one (.ptr 1000000 1)) rfl rfl rfl (by conv => lhs; whnf) rfl rfl ?_
    refine ldo (w := .one (.c (.int .i64 o0_1))) rfl rfl rfl (by conv => lhs; whnf) rfl rfl rfl ?_
    refine mv rfl (by conv => lhs; whnf) rfl ?_
    refine nlc rfl (by conv => lhs; whnf) rfl rfl ?_
    refine fld (u := .one (.ptr 1000000 0)) rfl rfl rfl (by conv => lhs; whnf) rfl rfl ?_
    refine ldo (w := .one (.c (.sl (o0_0.map rI_u8)))) rfl rfl rfl (by conv => lhs; whnf) rfl rfl rfl ?_
    refine ln rfl rfl (by conv => lhs; whnf) rfl ?_
    refine rd (.bool (decide (o0_1 < (o0_0.length : Int)))) rfl rfl rfl rfl rfl ?_
    refine step_nil ?_
    exact ⟨rfl, rfl, rfl, rfl⟩
  clear s0 s3 o1000000
  intro x hM
  obtain ⟨s0, s3, s34, o1000000⟩ := hM
  refine bif_cases h (fun q1 h => ?_) (fun q1 h => ?_)
  · refine c_ct (by rw [← q1]; exact s34) ?_
    obtain ⟨e44_2, ke44_2, h⟩ := bind_some h
    refine c_reg (fun x => x.sl 0 = .one (.ptr 1000000 0) ∧ x.sl 3 = .one (.c (.int .i64 (bits .and .i64 (IntKind.wrap .i64 ((bits .and .i64 (bits .xor .i64 (Int.fdiv (IntKind.wrap .i64 ((IntKind.wrap .i64 (o0_2 * (6364136223846793005 : Int))) + (1442695040888963407 : Int))) (2 ^ 33)) (Int.fdiv (IntKind.wrap .i64 ((IntKind.wrap .i64 (o0_2 * (6364136223846793005 : Int))) + (1442695040888963407 : Int))) (2 ^ 47))) (255 : Int)) + (IntKind.wrap .i64 e44_2))) (255 : Int)))) ∧ x.ob 1000000 = some [.sl (o0_0.map rI_u8), .int .i64 o0_1, .int .i64 (IntKind.wrap .i64 ((IntKind.wrap .i64 (o0_2 * (6364136223846793005 : Int))) + (1442695040888963407 : Int)))]) ?_ ?_
    · rw [← put_self s0, ← put_self s3, ← put_self s34, ← setO_self o1000000]
      refine mv rfl (by conv => lhs; whnf) rfl ?_
      refine mv rfl (by conv => lhs; whnf) rfl ?_
      refine nlc rfl (by conv => lhs; whnf) rfl rfl ?_
      refine fld (u := .one (.ptr 1000000 0)) rfl rfl rfl (by conv => lhs; whnf) rfl rfl ?_
      refine ldo (w := .one (.c (.sl (o0_0.map rI_u8)))) rfl rfl rfl (by conv => lhs; whnf) rfl rfl rfl ?_
      refine mv rfl (by conv => lhs; whnf) rfl ?_
      refine nlc rfl (by conv => lhs; whnf) rfl rfl ?_
      refine fld (u := .one (.ptr 1000000 1)) rfl rfl rfl (by conv => lhs; whnf) rfl rfl ?_
      refine ldo (w := .one (.c (.int .i64 o0_1))) rfl rfl rfl (by conv => lhs; whnf) rfl rfl rfl ?_
      refine ixa (f := rI_u8) (row := [.int .u8 e44_2]) ke44_2 rfl rfl rfl (by conv => lhs; whnf) (by conv => lhs; whnf) rfl rfl rfl ?_
      refine ldc (w := .one (.c (.int .u8 e44_2))) rfl rfl (by conv => lhs; whnf) rfl rfl ?_
      refine rd (.int .i64 (IntKind.wrap .i64 e44_2)) rfl rfl rfl rfl rfl ?_
      refine rd (.int .i64 (IntKind.wrap .i64 ((bits .and .i64 (bits .xor .i64 (Int.fdiv (IntKind.wrap .i64 ((IntKind.wrap .i64 (o0_2 * (6364136223846793005 : Int))) + (1442695040888963407 : Int))) (2 ^ 33)) (Int.fdiv (IntKind.wrap .i64 ((IntKind.wrap .i64 (o0_2 * (6364136223846793005 : Int))) + (1442695040888963407 : Int))) (2 ^ 47))) (255 : Int)) + (IntKind.wrap .i64 e44_2)))) rfl rfl rfl rfl rfl ?_
      refine rd (.int .i64 (bits .and .i64 (IntKind.wrap .i64 ((bits .and .i64 (bits .xor .i64 (Int.fdiv (IntKind.wrap .i64 ((IntKind.wrap .i64 (o0_2 * (6364136223846793005 : Int))) + (1442695040888963407 : Int))) (2 ^ 33)) (Int.fdiv (IntKind.wrap .i64 ((IntKind.wrap .i64 (o0_2 * (6364136223846793005 : Int))) + (1442695040888963407 : Int))) (2 ^ 47))) (255 : Int)) + (IntKind.wrap .i64 e44_2))) (255 : Int))) rfl rfl rfl rfl rfl ?_
      refine asg rfl (by conv => lhs; whnf) rfl ?_
      refine step_nil ?_
      exact ⟨rfl, rfl, rfl⟩
    clear s0 s3 s34 o1000000
    intro x hM
    obtain ⟨s0, s3, o1000000⟩ := hM
    refine c_regl (fun x => x.sl 3 = .one (.c (.int .i64 (bits .and .i64 (IntKind.wrap .i64 ((bits .and .i64 (bits .xor .i64 (Int.fdiv (IntKind.wrap .i64 ((IntKind.wrap .i64 (o0_2 * (6364136223846793005 : Int))) + (1442695040888963407 : Int))) (2 ^ 33)) (Int.fdiv (IntKind.wrap .i64 ((IntKind.wrap .i64 (o0_2 * (6364136223846793005 : Int))) + (1442695040888963407 : Int))) (2 ^ 47))) (255 : Int)) + (IntKind.wrap .i64 e44_2))) (255 : Int)))) ∧ x.ob 1000000 = some [.sl (o0_0.map rI_u8), .int .i64 (IntKind.wrap .i64 (o0_1 + (1 : Int))), .int .i64 (IntKind.wrap .i64 ((IntKind.wrap .i64 (o0_2 * (6364136223846793005 : Int))) + (1442695040888963407 : Int)))]) ?_ ?_
    · rw [← put_self s0, ← put_self s3, ← setO_self o1000000]
      refine mv rfl (by conv => lhs; whnf) rfl ?_
      refine mv rfl (by conv => lhs; whnf) rfl ?_
      refine nlc rfl (by conv => lhs; whnf) rfl rfl ?_
      refine fld (u := .one (.ptr 1000000 1)) rfl rfl rfl (by conv => lhs; whnf) rfl rfl ?_
      refine ldo (w := .one (.c (.int .i64 o0_1))) rfl rfl rfl (by conv => lhs; whnf) rfl rfl rfl ?_
      refine rd (.int .i64 (IntKind.wrap .i64 (o0_1 + (1 : Int)))) rfl rfl rfl rfl rfl ?_
      refine nlc rfl (by conv => lhs; whnf) rfl rfl ?_
      refine fld (u := .one (.ptr 1000000 1)) rfl rfl rfl (by conv => lhs; whnf) rfl rfl ?_
      refine sto (cs := [.sl (o0_0.map rI_u8), .int .i64 (IntKind.wrap .i64 (o0_1 + (1 : Int))), .int .i64 (IntKind.wrap .i64 ((IntKind.wrap .i64 (o0_2 * (6364136223846793005 : Int))) + (1442695040888963407 : Int)))]) rfl rfl (by conv => lhs; whnf) rfl rfl rfl rfl ?_
      refine step_nil ?_
      exact ⟨rfl, rfl⟩
    clear s0 s3 o1000000
    intro x hM
    obtain ⟨s3, o1000000⟩ := hM
    show vcC _ _ _ _ _ _ _
    refine c_reg (fun x => x.sl 2 = .one (.c (.int .i64 (bits .and .i64 (IntKind.wrap .i64 ((bits .and .i64 (bits .xor .i64 (Int.fdiv (IntKind.wrap .i64 ((IntKind.wrap .i64 (o0_2 * (6364136223846793005 : Int))) + (1442695040888963407 : Int))) (2 ^ 33)) (Int.fdiv (IntKind.wrap .i64 ((IntKind.wrap .i64 (o0_2 * (6364136223846793005 : Int))) + (1442695040888963407 : Int))) (2 ^ 47))) (255 : Int)) + (IntKind.wrap .i64 e44_2))) (255 : Int)))) ∧ x.ob 1000000 = some [.sl (o0_0.map rI_u8), .int .i64 (IntKind.wrap .i64 (o0_1 + (1 : Int))), .int .i64 (IntKind.wrap .i64 ((IntKind.wrap .i64 (o0_2 * (6364136223846793005 : Int))) + (1442695040888963407 : Int)))]) ?_ ?_
    · rw [← put_self s3, ← setO_self o1000000]
      refine mv rfl (by conv => lhs; whnf) rfl ?_
      refine asg rfl (by conv => lhs; whnf) rfl ?_
      refine step_nil ?_
      exact ⟨rfl, rfl⟩
    clear s3 o1000000
    intro x hM
    obtain ⟨s2, o1000000⟩ := hM
    refine c_ret ?_
    cases h
    show _ ∧ _
    rw [← put_self s2, ← setO_self o1000000]
    exact ⟨.inr rfl, _, rfl, rfl, rfl, rfl⟩
  · refine c_cf (by rw [← q1]; exact s34) ?_
    refine c_skip ?_
    show vcC _ _ _ _ _ _ _
    refine c_reg (fun x => x.sl 2 = .one (.c (.int .i64 (bits .and .i64 (bits .xor .i64 (Int.fdiv (IntKind.wrap .i64 ((IntKind.wrap .i64 (o0_2 * (6364136223846793005 : Int))) + (1442695040888963407 : Int))) (2 ^ 33)) (Int.fdiv (IntKind.wrap .i64 ((IntKind.wrap .i64 (o0_2 * (6364136223846793005 : Int))) + (1442695040888963407 : Int))) (2 ^ 47))) (255 : Int)))) ∧ x.ob 1000000 = some [.sl (o0_0.map rI_u8), .int .i64 o0_1, .int .i64 (IntKind.wrap .i64 ((IntKind.wrap .i64 (o0_2 * (6364136223846793005 : Int))) + (1442695040888963407 : Int)))]) ?_ ?_
    · rw [← put_self s0, ← put_self s3, ← put_self s34, ← setO_self o1000000]
      refine mv rfl (by conv => lhs; whnf) rfl ?_
      refine asg rfl (by conv => lhs; whnf) rfl ?_
      refine step_nil ?_
      exact ⟨rfl, rfl⟩
    clear s0 s3 s34 o1000000
    intro x hM
    obtain ⟨s2, o1000000⟩ := hM
    refine c_ret ?_
    cases h
    show _ ∧ _
    rw [← put_self s2, ← setO_self o1000000]
    exact ⟨.inr rfl, _, rfl, rfl, rfl, rfl⟩
def p_spec_l1Below (n : Nat) (t1_0 : Int) (o0_0 : List Int) (o0_1 : Int) (o0_2 : Int) : Option (Int × (List Int) × Int × Int) :=
  bif decide (t1_0 ≤ (0 : Int)) then some ((0 : Int), o0_0, o0_1, o0_2) else bif decide (t1_0 ≤ (256 : Int)) then (p_spec_l1Byte n o0_0 o0_1 o0_2).bind fun c13_3 => (ck (!decide (t1_0 = 0))).bind fun _ => some ((Int.tmod c13_3.1 t1_0), c13_3.2.1, c13_3.2.2.1, c13_3.2.2.2) else (p_spec_l1Byte n o0_0 o0_1 o0_2).bind fun c17_5 => (p_spec_l1Byte n c17_5.2.1 c17_5.2.2.1 c17_5.2.2.2).bind fun c19_6 => (p_spec_l1Byte n c19_6.2.1 c19_6.2.2.1 c19_6.2.2.2).bind fun c21_7 => (ck (!decide (t1_0 = 0))).bind fun _ => some ((Int.tmod (IntKind.wrap .i64 ((IntKind.wrap .i64 ((IntKind.wrap .i64 (c17_5.1 * (65536 : Int))) + (IntKind.wrap .i64 (c19_6.1 * (256 : Int))))) + c21_7.1)) t1_0), c21_7.2.1, c21_7.2.2.1, c21_7.2.2.2)
theorem big_spec_l1Below {n : Nat} {t1_0 : Int} {o0_0 : List Int} {o0_1 : Int} {o0_2 : Int} {r : Int × (List Int) × Int × Int} (h : p_spec_l1Below n t1_0 o0_0 o0_1 o0_2 = some r) : Big Try.prog τ An (.fn 59 [.one (.ptr 1000000 0), .one (.c (.int .i64 t1_0))] [[.sl (o0_0.map rI_u8), .int .i64 o0_1, .int .i64 o0_2]] (.one (.c (.int .i64 r.1))) none [[.sl (r.2.1.map rI_u8), .int .i64 r.2.2.1, .int .i64 r.2.2.2]] none) := by
  unfold p_spec_l1Below at h
  refine Big.of Try.func59 rfl rfl rfl rfl ?_
  have s0 : (DA [.one (.ptr 1000000 0), .one (.c (.int .i64 t1_0))] [[.sl (o0_0.map rI_u8), .int .i64 o0_1, .int .i64 o0_2]]).sl 0 = .one (.ptr 1000000 0) := rfl
  have s1 : (DA [.one (.ptr 1000000 0), .one (.c (.int .i64 t1_0))] [[.sl (o0_0.map rI_u8), .int .i64 o0_1, .int .i64 o0_2]]).sl 1 = .one (.c (.int .i64 t1_0)) := rfl
  have o1000000 : (DA [.one (.ptr 1000000 0), .one (.c (.int .i64 t1_0))] [[.sl (o0_0.map rI_u8), .int .i64 o0_1, .int .i64 o0_2]]).ob 1000000 = some [.sl (o0_0.map rI_u8), .int .i64 o0_1, .int .i64 o0_2] := rfl
  generalize DA [.one (.ptr 1000000 0), .one (.c (.int .i64 t1_0))] [[.sl (o0_0.map rI_u8), .int .i64 o0_1, .int .i64 o0_2]] = x at s0 s1 o1000000 ⊢
  refine c_reg (fun x => x.sl 0 = .one (.ptr 1000000 0) ∧ x.sl 1 = .one (.c (.int .i64 t1_0)) ∧ x.ob 1000000 = some [.sl (o0_0.map rI_u8), .int .i64 o0_1, .int .i64 o0_2]) ?_ ?_
  · rw [← put_self s0, ← put_self s1, ← setO_self o1000000]
    refine asg rfl (by conv => lhs; whnf) rfl ?_
    refine step_nil ?_
    exact ⟨rfl, rfl, rfl⟩
  clear s0 s1 o1000000
  intro x hM
  obtain ⟨s0, s1, o1000000⟩ := hM
  refine c_seq ?_
  refine c_reg (fun x => x.sl 0 = .one (.ptr 1000000 0) ∧ x.sl 1 = .one (.c (.int .i64 t1_0)) ∧ x.sl 9 = .one (.c (.bool (decide (t1_0 ≤ (0 : Int))))) ∧ x.ob 1000000 = some [.sl (o0_0.map rI_u8), .int .i64 o0_1, .int .i64 o0_2]) ?_ ?_
  · rw [← put_self s0, ← put_self s1, ← setO_self o1000000]
    refine mv rfl (by conv => lhs; whnf) rfl ?_
    refine rd (.bool (decide (t1_0 ≤ (0 : Int)))) rfl rfl rfl rfl rfl ?_
    refine step_nil ?_
    exact ⟨rfl, rfl, rfl, rfl⟩
  clear s0 s1 o1000000
  intro x hM
  obtain ⟨s0, s1, s9, o1000000⟩ := hM
  refine bif_cases h (fun q1 h => ?_) (fun q1 h => ?_)
  · refine c_ct (by rw [← q1]; exact s9) ?_
    refine c_reg (fun x => x.sl 4 = .one (.c (.int .i64 0)) ∧ x.ob 1000000 = some [.sl (o0_0.map rI_u8), .int .i64 o0_1, .int .i64 o0_2]) ?_ ?_
    · rw [← put_self s0, ← put_self s1, ← put_self s9, ← setO_self o1000000]
      refine asg rfl (by conv => lhs; whnf) rfl ?_
      refine step_nil ?_
      exact ⟨rfl, rfl⟩
    clear s0 s1 s9 o1000000
    intro x hM
    obtain ⟨s4, o1000000⟩ := hM
    refine c_ret ?_
    cases h
    show _ ∧ _
    rw [← put_self s4, ← setO_self o1000000]
    exact ⟨.inr rfl, _, rfl, rfl, rfl, rfl⟩
  · refine c_cf (by rw [← q1]; exact s9) ?_
    refine c_skip ?_
    show vcC _ _ _ _ _ _ _
    refine c_seq ?_
    refine c_reg (fun x => x.sl 0 = .one (.ptr 1000000 0) ∧ x.sl 1 = .one (.c (.int .i64 t1_0)) ∧ x.sl 11 = .one (.c (.bool (decide (t1_0 ≤ (256 : Int))))) ∧ x.ob 1000000 = some [.sl (o0_0.map rI_u8), .int .i64 o0_1, .int .i64 o0_2]) ?_ ?_
    · rw [← put_self s0, ← put_self s1, ← put_self s9, ← setO_self o1000000]
      refine mv rfl (by conv => lhs; whnf) rfl ?_
      refine rd (.bool (decide (t1_0 ≤ (256 : Int)))) rfl rfl rfl rfl rfl ?_
      refine step_nil ?_
      exact ⟨rfl, rfl, rfl, rfl⟩
    clear s0 s1 s9 o1000000
    intro x hM
    obtain ⟨s0, s1, s11, o1000000⟩ := hM
    refine bif_cases h (fun q2 h => ?_) (fun q2 h => ?_)
    · refine c_ct (by rw [← q2]; exact s11) ?_
      obtain ⟨c13_3, kc13_3, h⟩ := bind_some h
      obtain ⟨_, k15_3, h⟩ := bind_some h
      have k15_3 := ck_of k15_3
      refine c_reg (fun x => x.sl 4 = .one (.c (.int .i64 (Int.tmod c13_3.1 t1_0))) ∧ x.ob 1000000 = some [.sl (c13_3.2.1.map rI_u8), .int .i64 c13_3.2.2.1, .int .i64 c13_3.2.2.2]) ?_ ?_
      · rw [← put_self s0, ← put_self s1, ← put_self s11, ← setO_self o1000000]
        refine mv rfl (by conv => lhs; whnf) rfl ?_
        refine cl1 (v' := .one (.c (.int .i64 c13_3.1))) (big_spec_l1Byte kc13_3) rfl rfl rfl rfl rfl rfl rfl rfl rfl rfl ?_
        refine mv rfl (by conv => lhs; whnf) rfl ?_
        refine rd (.int .i64 (Int.tmod c13_3.1 t1_0)) rfl rfl rfl (rd_rem k15_3 (by conv => lhs; whnf) (by conv => lhs; whnf)) rfl ?_
        refine asg rfl (by conv => lhs; whnf) rfl ?_
        refine step_nil ?_
        exact ⟨rfl, rfl⟩
      clear s0 s1 s11 o1000000
      intro x hM
      obtain ⟨s4, o1000000⟩ := hM
      refine c_ret ?_
      cases h
      show _ ∧ _
      rw [← put_self s4, ← setO_self o1000000]
      exact ⟨.inr rfl, _, rfl, rfl, rfl, rfl⟩
    · refine c_cf (by rw [← q2]; exact s11) ?_
      refine c_skip ?_
      show vcC _ _ _ _ _ _ _
      obtain ⟨c17_5, kc17_5, h⟩ := bind_some h
      refine c_reg (fun x => x.sl 0 = .one (.ptr 1000000 0) ∧ x.sl 1 = .one (.c (.int .i64 t1_0)) ∧ x.sl 5 = .one (.c (.int .i64 c17_5.1)) ∧ x.ob 1000000 = some [.sl (c17_5.2.1.map rI_u8), .int .i64 c17_5.2.2.1, .int .i64 c17_5.2.2.2]) ?_ ?_
      · rw [← put_self s0, ← put_self s1, ← put_self s11, ← setO_self o1000000]
        refine mv rfl (by conv => lhs; whnf) rfl ?_
        refine cl1 (v' := .one (.c (.int .i64 c17_5.1))) (big_spec_l1Byte kc17_5) rfl rfl rfl rfl rfl rfl rfl rfl rfl rfl ?_
        refine asg rfl (by conv => lhs; whnf) rfl ?_
        refine step_nil ?_
        exact ⟨rfl, rfl, rfl, rfl⟩
      clear s0 s1 s11 o1000000
      intro x hM
      obtain ⟨s0, s1, s5, o1000000⟩ := hM
      obtain ⟨c19_6, kc19_6, h⟩ := bind_some h
      refine c_reg (fun x => x.sl 0 = .one (.ptr 1000000 0) ∧ x.sl 1 = .one (.c (.int .i64 t1_0)) ∧ x.sl 5 = .one (.c (.int .i64 c17_5.1)) ∧ x.sl 6 = .one (.c (.int .i64 c19_6.1)) ∧ x.ob 1000000 = some [.sl (c19_6.2.1.map rI_u8), .int .i64 c19_6.2.2.1, .int .i64 c19_6.2.2.2]) ?_ ?_
      · rw [← put_self s0, ← put_self s1, ← put_self s5, ← setO_self o1000000]
        refine mv rfl (by conv => lhs; whnf) rfl ?_
        refine cl1 (v' := .one (.c (.int .i64 c19_6.1))) (big_spec_l1Byte kc19_6) rfl rfl rfl rfl rfl rfl rfl rfl rfl rfl ?_
        refine asg rfl (by conv => lhs; whnf) rfl ?_
        refine step_nil ?_
        exact ⟨rfl, rfl, rfl, rfl, rfl⟩
      clear s0 s1 s5 o1000000
      intro x hM
      obtain ⟨s0, s1, s5, s6, o1000000⟩ := hM
      obtain ⟨c21_7, kc21_7, h⟩ := bind_some h
      refine c_reg (fun x => x.sl 1 = .one (.c (.int .i64 t1_0)) ∧ x.sl 5 = .one (.c (.int .i64 c17_5.1)) ∧ x.sl 6 = .one (.c (.int .i64 c19_6.1)) ∧ x.sl 7 = .one (.c (.int .i64 c21_7.1)) ∧ x.ob 1000000 = some [.sl (c21_7.2.1.map rI_u8), .int .i64 c21_7.2.2.1, .int .i64 c21_7.2.2.2]) ?_ ?_
      · rw [← put_self s0, ← put_self s1, ← put_self s5, ← put_self s6, ← setO_self o1000000]
        refine mv rfl (by conv => lhs; whnf) rfl ?_
        refine cl1 (v' := .one (.c (.int .i64 c21_7.1))) (big_spec_l1Byte kc21_7) rfl rfl rfl rfl rfl rfl rfl rfl rfl rfl ?_
        refine asg rfl (by conv => lhs; whnf) rfl ?_
        refine step_nil ?_
        exact ⟨rfl, rfl, rfl, rfl, rfl⟩
      clear s0 s1 s5 s6 o1000000
      intro x hM
      obtain ⟨s1, s5, s6, s7, o1000000⟩ := hM
      obtain ⟨_, k30_7, h⟩ := bind_some h
      have k30_7 := ck_of k30_7
      refine c_reg (fun x => x.sl 4 = .one (.c (.int .i64 (Int.tmod (IntKind.wrap .i64 ((IntKind.wrap .i64 ((IntKind.wrap .i64 (c17_5.1 * (65536 : Int))) + (IntKind.wrap .i64 (c19_6.1 * (256 : Int))))) + c21_7.1)) t1_0))) ∧ x.ob 1000000 = some [.sl (c21_7.2.1.map rI_u8), .int .i64 c21_7.2.2.1, .int .i64 c21_7.2.2.2]) ?_ ?_
      · rw [← put_self s1, ← put_self s5, ← put_self s6, ← put_self s7, ← setO_self o1000000]
        refine mv rfl (by conv => lhs; whnf) rfl ?_
        refine rd (.int .i64 (IntKind.wrap .i64 (c17_5.1 * (65536 : Int)))) rfl rfl rfl rfl rfl ?_
        refine mv rfl (by conv => lhs; whnf) rfl ?_
        refine rd (.int .i64 (IntKind.wrap .i64 (c19_6.1 * (256 : Int)))) rfl rfl rfl rfl rfl ?_
        refine rd (.int .i64 (IntKind.wrap .i64 ((IntKind.wrap .i64 (c17_5.1 * (65536 : Int))) + (IntKind.wrap .i64 (c19_6.1 * (256 : Int)))))) rfl rfl rfl rfl rfl ?_
        refine mv rfl (by conv => lhs; whnf) rfl ?_
        refine rd (.int .i64 (IntKind.wrap .i64 ((IntKind.wrap .i64 ((IntKind.wrap .i64 (c17_5.1 * (65536 : Int))) + (IntKind.wrap .i64 (c19_6.1 * (256 : Int))))) + c21_7.1))) rfl rfl rfl rfl rfl ?_
        refine mv rfl (by conv => lhs; whnf) rfl ?_
        refine rd (.int .i64 (Int.tmod (IntKind.wrap .i64 ((IntKind.wrap .i64 ((IntKind.wrap .i64 (c17_5.1 * (65536 : Int))) + (IntKind.wrap .i64 (c19_6.1 * (256 : Int))))) + c21_7.1)) t1_0)) rfl rfl rfl (rd_rem k30_7 (by conv => lhs; whnf) (by conv => lhs; whnf)) rfl ?_
        refine asg rfl (by conv => lhs; whnf) rfl ?_
        refine step_nil ?_
        exact ⟨rfl, rfl⟩
      clear s1 s5 s6 s7 o1000000
      intro x hM
      obtain ⟨s4, o1000000⟩ := hM
      refine c_ret ?_
      cases h
      show _ ∧ _
      rw [← put_self s4, ← setO_self o1000000]
      exact ⟨.inr rfl, _, rfl, rfl, rfl, rfl⟩
def p_spec_l13Atom (n : Nat) (t0_0 : List UInt8) : Option (Int × Int × (List UInt8) × (List S_impl_Term)) :=
  some ((2 : Int), (0 : Int), t0_0, ([] : List S_impl_Term))
theorem big_spec_l13Atom {n : Nat} {t0_0 : List UInt8} {r : Int × Int × (List UInt8) × (List S_impl_Term)} (h : p_spec_l13Atom n t0_0 = some r) : Big Try.prog τ An (.fn 61 [.one (.c (.str t0_0))] [] (.one (.ag [.int .i64 r.1, .int .i64 r.2.1, .str r.2.2.1, .sl (r.2.2.2.map rS_impl_Term)])) none [] none) := by
  unfold p_spec_l13Atom at h
  refine Big.of Try.func61 rfl rfl rfl rfl ?_
  have s0 : (DA [.one (.c (.str t0_0))] []).sl 0 = .one (.c (.str t0_0)) := rfl
  generalize DA [.one (.c (.str t0_0))] [] = x at s0 ⊢
  refine c_reg (fun x => x.sl 0 = .one (.c (.str t0_0)) ∧ x.sl 2 = .one (.ptr 2 0) ∧ x.ob 2 = some [.int .i64 0, .int .i64 0, .str [], .sl ([].map rS_impl_Term)]) ?_ ?_
  · rw [← put_self s0]
    refine alc (cs := [.int .i64 0, .int .i64 0, .str [], .sl ([].map rS_impl_Term)]) rfl rfl rfl rfl ?_
    refine step_nil ?_
    exact ⟨rfl, rfl, rfl⟩
  clear s0
  intro x hM
  obtain ⟨s0, s2, o2⟩ := hM
  refine c_reg (fun x => x.sl 2 = .one (.ptr 2 0) ∧ x.ob 2 = some [.int .i64 2, .int .i64 0, .str t0_0, .sl ([].map rS_impl_Term)]) ?_ ?_
  · rw [← put_self s0, ← put_self s2, ← setO_self o2]
    refine mv rfl (by conv => lhs; whnf) rfl ?_
    refine bld (rs := [.int .i64 2, .int .i64 0, .str t0_0, .sl ([].map rS_impl_Term)]) rfl rfl rfl rfl rfl ?_
    refine sto (cs := [.int .i64 2, .int .i64 0, .str t0_0, .sl ([].map rS_impl_Term)]) rfl rfl (by conv => lhs; whnf) rfl rfl rfl rfl ?_
    refine step_nil ?_
    exact ⟨rfl, rfl⟩
  clear s0 s2 o2
  intro x hM
  obtain ⟨s2, o2⟩ := hM
  refine c_ret ?_
  cases h
  show _ ∧ _
  rw [← put_self s2, ← setO_self o2]
  exact ⟨.inr rfl, _, rfl, rfl, rfl, rfl⟩
def p_spec_l1Once (n : Nat) (t1_0 : Int) (o0_0 : List Int) (o0_1 : Int) (o0_2 : Int) : Option (Bool × (List Int) × Int × Int) :=
  (p_spec_l1Below n t1_0 o0_0 o0_1 o0_2).bind fun c7_1 => some ((decide (c7_1.1 = (0 : Int))), c7_1.2.1, c7_1.2.2.1, c7_1.2.2.2)
theorem big_spec_l1Once {n : Nat} {t1_0 : Int} {o0_0 : List Int} {o0_1 : Int} {o0_2 : Int} {r : Bool × (List Int) × Int × Int} (h : p_spec_l1Once n t1_0 o0_0 o0_1 o0_2 = some r) : Big Try.prog τ An (.fn 62 [.one (.ptr 1000000 0), .one (.c (.int .i64 t1_0))] [[.sl (o0_0.map rI_u8), .int .i64 o0_1, .int .i64 o0_2]] (.one (.c (.bool r.1))) none [[.sl (r.2.1.map rI_u8), .int .i64 r.2.2.1, .int .i64 r.2.2.2]] none) := by
  unfold p_spec_l1Once at h
  refine Big.of Try.func62 rfl rfl rfl rfl ?_
  have s0 : (DA [.one (.ptr 1000000 0), .one (.c (.int .i64 t1_0))] [[.sl (o0_0.map rI_u8), .int .i64 o0_1, .int .i64 o0_2]]).sl 0 = .one (.ptr 1000000 0) := rfl
  have s1 : (DA [.one (.ptr 1000000 0), .one (.c (.int .i64 t1_0))] [[.sl (o0_0.map rI_u8), .int .i64 o0_1, .int .i64 o0_2]]).sl 1 = .one (.c (.int .i64 t1_0)) := rfl
  have o1000000 : (DA [.one (.ptr 1000000 0), .one (.c (.int .i64 t1_0))] [[.sl (o0_0.map rI_u8), .int .i64 o0_1, .int .i64 o0_2]]).ob 1000000 = some [.sl (o0_0.map rI_u8), .int .i64 o0_1, .int .i64 o0_2] := rfl
  generalize DA [.one (.ptr 1000000 0), .one (.c (.int .i64 t1_0))] [[.sl (o0_0.map rI_u8), .int .i64 o0_1, .int .i64 o0_2]] = x at s0 s1 o1000000 ⊢
  refine c_reg (fun x => x.sl 0 = .one (.ptr 1000000 0) ∧ x.sl 1 = .one (.c (.int .i64 t1_0)) ∧ x.ob 1000000 = some [.sl (o0_0.map rI_u8), .int .i64 o0_1, .int .i64 o0_2]) ?_ ?_
  · rw [← put_self s0, ← put_self s1, ← setO_self o1000000]
    refine asg rfl (by conv => lhs; whnf) rfl ?_
    refine step_nil ?_
    exact ⟨rfl, rfl, rfl⟩
  clear s0 s1 o1000000
  intro x hM
  obtain ⟨s0, s1, o1000000⟩ := hM
  obtain ⟨c7_1, kc7_1, h⟩ := bind_some h
  refine c_reg (fun x => x.sl 4 = .one (.c (.bool (decide (c7_1.1 = (0 : Int))))) ∧ x.ob 1000000 = some [.sl (c7_1.2.1.map rI_u8), .int .i64 c7_1.2.2.1, .int .i64 c7_1.2.2.2]) ?_ ?_
  · rw [← put_self s0, ← put_self s1, ← setO_self o1000000]
    refine mv rfl (by conv => lhs; whnf) rfl ?_
    refine mv rfl (by conv => lhs; whnf) rfl ?_
    refine cl1 (v' := .one (.c (.int .i64 c7_1.1))) (big_spec_l1Below kc7_1) rfl rfl rfl rfl rfl rfl rfl rfl rfl rfl ?_
    refine rd (.bool (decide (c7_1.1 = (0 : Int)))) rfl rfl rfl rfl rfl ?_
    refine asg rfl (by conv => lhs; whnf) rfl ?_
    refine step_nil ?_
    exact ⟨rfl, rfl⟩
  clear s0 s1 o1000000
  intro x hM
  obtain ⟨s4, o1000000⟩ := hM
  refine c_ret ?_
  cases h
  show _ ∧ _
  rw [← put_self s4, ← setO_self o1000000]
  exact ⟨.inr rfl, _, rfl, rfl, rfl, rfl⟩
def p_spec_l1Int (n : Nat) (t1_0 : List Int) (o0_0 : List Int) (o0_1 : Int) (o0_2 : Int) : Option (Int × (List Int) × Int × Int) :=
  (p_spec_l1Below n (t1_0.length : Int) o0_0 o0_1 o0_2).bind fun c9_1 => (ix t1_0 c9_1.1).bind fun e10_2 => some (e10_2, c9_1.2.1, c9_1.2.2.1, c9_1.2.2.2)
theorem big_spec_l1Int {n : Nat} {t1_0 : List Int} {o0_0 : List Int} {o0_1 : Int} {o0_2 : Int} {r : Int × (List Int) × Int × Int} (h : p_spec_l1Int n t1_0 o0_0 o0_1 o0_2 = some r) : Big Try.prog τ An (.fn 60 [.one (.ptr 1000000 0), .one (.c (.sl (t1_0.map rI_i64)))] [[.sl (o0_0.map rI_u8), .int .i64 o0_1, .int .i64 o0_2]] (.one (.c (.int .i64 r.1))) none [[.sl (r.2.1.map rI_u8), .int .i64 r.2.2.1, .int .i64 r.2.2.2]] none) := by
  unfold p_spec_l1Int at h
  refine Big.of Try.func60 rfl rfl rfl rfl ?_
  have s0 : (DA [.one (.ptr 1000000 0), .one (.c (.sl (t1_0.map rI_i64)))] [[.sl (o0_0.map rI_u8), .int .i64 o0_1, .int .i64 o0_2]]).sl 0 = .one (.ptr 1000000 0) := rfl
  have s1 : (DA [.one (.ptr 1000000 0), .one (.c (.sl (t1_0.map rI_i64)))] [[.sl (o0_0.map rI_u8), .int .i64 o0_1, .int .i64 o0_2]]).sl 1 = .one (.c (.sl (t1_0.map rI_i64))) := rfl
  have o1000000 : (DA [.one (.ptr 1000000 0), .one (.c (.sl (t1_0.map rI_i64)))] [[.sl (o0_0.map rI_u8), .int .i64 o0_1, .int .i64 o0_2]]).ob 1000000 = some [.sl (o0_0.map rI_u8), .int .i64 o0_1, .int .i64 o0_2] := rfl
  generalize DA [.one (.ptr 1000000 0), .one (.c (.sl (t1_0.map rI_i64)))] [[.sl (o0_0.map rI_u8), .int .i64 o0_1, .int .i64 o0_2]] = x at s0 s1 o1000000 ⊢
  refine c_reg (fun x => x.sl 0 = .one (.ptr 1000000 0) ∧ x.sl 1 = .one (.c (.sl (t1_0.map rI_i64))) ∧ x.ob 1000000 = some [.sl (o0_0.map rI_u8), .int .i64 o0_1, .int .i64 o0_2]) ?_ ?_
  · rw [← put_self s0, ← put_self s1, ← setO_self o1000000]
    refine asg rfl (by conv => lhs; whnf) rfl ?_
    refine step_nil ?_
    exact ⟨rfl, rfl, rfl⟩
  clear s0 s1 o1000000
  intro x hM
  obtain ⟨s0, s1, o1000000⟩ := hM
  obtain ⟨c9_1, kc9_1, h⟩ := bind_some h
  obtain ⟨e10_2, ke10_2, h⟩ := bind_some h
  refine c_reg (fun x => x.sl 4 = .one (.c (.int .i64 e10_2)) ∧ x.ob 1000000 = some [.sl (c9_1.2.1.map rI_u8), .int .i64 c9_1.2.2.1, .int .i64 c9_1.2.2.2]) ?_ ?_
  · rw [← put_self s0, ← put_self s1, ← setO_self o1000000]
    refine mv rfl (by conv => lhs; whnf) rfl ?_
    refine mv rfl (by conv => lhs; whnf) rfl ?_
    refine mv rfl (by conv => lhs; whnf) rfl ?_
    refine ln rfl rfl (by conv => lhs; whnf) rfl ?_
    refine cl1 (v' := .one (.c (.int .i64 c9_1.1))) (big_spec_l1Below kc9_1) rfl rfl rfl rfl rfl rfl rfl rfl rfl rfl ?_
    refine ixa (f := rI_i64) (row := [.int .i64 e10_2]) ke10_2 rfl rfl rfl (by conv => lhs; whnf) (by conv => lhs; whnf) rfl rfl rfl ?_
    refine ldc (w := .one (.c (.int .i64 e10_2))) rfl rfl (by conv => lhs; whnf) rfl rfl ?_
    refine asg rfl (by conv => lhs; whnf) rfl ?_
    refine step_nil ?_
    exact ⟨rfl, rfl⟩
  clear s0 s1 o1000000
  intro x hM
  obtain ⟨s4, o1000000⟩ := hM
  refine c_ret ?_
  cases h
  show _ ∧ _
  rw [← put_self s4, ← setO_self o1000000]
  exact ⟨.inr rfl, _, rfl, rfl, rfl, rfl⟩
def p_spec_l1Str (n : Nat) (t1_0 : List (List UInt8)) (o0_0 : List Int) (o0_1 : Int) (o0_2 : Int) : Option ((List UInt8) × (List Int) × Int × Int) :=
  (p_spec_l1Below n (t1_0.length : Int) o0_0 o0_1 o0_2).bind fun c9_1 => (ix t1_0 c9_1.1).bind fun e10_2 => some (e10_2, c9_1.2.1, c9_1.2.2.1, c9_1.2.2.2)
theorem big_spec_l1Str {n : Nat} {t1_0 : List (List UInt8)} {o0_0 : List Int} {o0_1 : Int} {o0_2 : Int} {r : (List UInt8) × (List Int) × Int × Int} (h : p_spec_l1Str n t1_0 o0_0 o0_1 o0_2 = some r) : Big Try.prog τ An (.fn 105 [.one (.ptr 1000000 0), .one (.c (.sl (t1_0.map rStr)))] [[.sl (o0_0.map rI_u8), .int .i64 o0_1, .int .i64 o0_2]] (.one (.c (.str r.1))) none [[.sl (r.2.1.map rI_u8), .int .i64 r.2.2.1, .int .i64 r.2.2.2]] none) := by
  unfold p_spec_l1Str at h
  refine Big.of Try.func105 rfl rfl rfl rfl ?_
  have s0 : (DA [.one (.ptr 1000000 0), .one (.c (.sl (t1_0.map rStr)))] [[.sl (o0_0.map rI_u8), .int .i64 o0_1, .int .i64 o0_2]]).sl 0 = .one (.ptr 1000000 0) := rfl
  have s1 : (DA [.one (.ptr 1000000 0), .one (.c (.sl (t1_0.map rStr)))] [[.sl (o0_0.map rI_u8), .int .i64 o0_1, .int .i64 o0_2]]).sl 1 = .one (.c (.sl (t1_0.map rStr))) := rfl
  have o1000000 : (DA [.one (.ptr 1000000 0), .one (.c (.sl (t1_0.map rStr)))] [[.sl (o0_0.map rI_u8), .int .i64 o0_1, .int .i64 o0_2]]).ob 1000000 = some [.sl (o0_0.map rI_u8), .int .i64 o0_1, .int .i64 o0_2] := rfl
  generalize DA [.one (.ptr 1000000 0), .one (.c (.sl (t1_0.map rStr)))] [[.sl (o0_0.map rI_u8), .int .i64 o0_1, .int .i64 o0_2]] = x at s0 s1 o1000000 ⊢
  refine c_reg (fun x => x.sl 0 = .one (.ptr 1000000 0) ∧ x.sl 1 = .one (.c (.sl (t1_0.map rStr))) ∧ x.ob 1000000 = some [.sl (o0_0.map rI_u8), .int .i64 o0_1, .int .i64 o0_2]) ?_ ?_
  · rw [← put_self s0, ← put_self s1, ← setO_self o1000000]
    refine asg rfl (by conv => lhs; whnf) rfl ?_
    refine step_nil ?_
    exact ⟨rfl, rfl, rfl⟩
  clear s0 s1 o1000000
  intro x hM
  obtain ⟨s0, s1, o1000000⟩ := hM
  obtain ⟨c9_1, kc9_1, h⟩ := bind_some h
  obtain ⟨e10_2, ke10_2, h⟩ := bind_some h
  refine c_reg (fun x => x.sl 4 = .one (.c (.str e10_2)) ∧ x.ob 1000000 = some [.sl (c9_1.2.1.map rI_u8), .int .i64 c9_1.2.2.1, .int .i64 c9_1.2.2.2]) ?_ ?_
  · rw [← put_self s0, ← put_self s1, ← setO_self o1000000]
    refine mv rfl (by conv => lhs; whnf) rfl ?_
    refine mv rfl (by conv => lhs; whnf) rfl ?_
    refine mv rfl (by conv => lhs; whnf) rfl ?_
    refine ln rfl rfl (by conv => lhs; whnf) rfl ?_
    refine cl1 (v' := .one (.c (.int .i64 c9_1.1))) (big_spec_l1Below kc9_1) rfl rfl rfl rfl rfl rfl rfl rfl rfl rfl ?_
    refine ixa (f := rStr) (row := [.str e10_2]) ke10_2 rfl rfl rfl (by conv => lhs; whnf) (by conv => lhs; whnf) rfl rfl rfl ?_
    refine ldc (w := .one (.c (.str e10_2))) rfl rfl (by conv => lhs; whnf) rfl rfl ?_
    refine asg rfl (by conv => lhs; whnf) rfl ?_
    refine step_nil ?_
    exact ⟨rfl, rfl⟩
  clear s0 s1 o1000000
  intro x hM
  obtain ⟨s4, o1000000⟩ := hM
  refine c_ret ?_
  cases h
  show _ ∧ _
  rw [← put_self s4, ← setO_self o1000000]
  exact ⟨.inr rfl, _, rfl, rfl, rfl, rfl⟩
def p_spec_l2Draw_b1 (n : Nat) (r_spec_l2Draw : Int → (List Int) → Int → Int → Option (Int × Int × (List UInt8) × (List S_impl_Term) × (List Int) × Int × Int)) (t1_0 : Int) : (Int × Int × Int × (List UInt8) × (List S_impl_Term) × (List Int) × Int × Int) → Option ((Int × Int × Int × (List UInt8) × (List S_impl_Term) × (List Int) × Int × Int) ⊕ ((Int × Bool × Int × Int × (List UInt8) × (List S_impl_Term) × (List Int) × Int × Int)))
  | (v6_19, w5_20, w5_21, w5_22, w5_23, w1000000_24, w1000000_25, w1000000_26) => (bif decide ((0 : Int) < v6_19) then some (decide ((0 : Int) < t1_0)) else some false).bind fun v42_36 => bif v42_36 then (r_spec_l2Draw (IntKind.wrap .i64 (t1_0 - (1 : Int))) w1000000_24 w1000000_25 w1000000_26).bind fun c50_39 => (app2 56 w5_23 ([S_impl_Term.mk c50_39.1 c50_39.2.1 c50_39.2.2.1 c50_39.2.2.2.1] : List S_impl_Term)).bind fun v52_40 => some (.inl ((IntKind.wrap .i64 (v6_19 - (1 : Int))), w5_20, w5_21, w5_22, v52_40, c50_39.2.2.2.2.1, c50_39.2.2.2.2.2.1, c50_39.2.2.2.2.2.2)) else some (.inr (v6_19, v42_36, w5_20, w5_21, w5_22, w5_23, w1000000_24, w1000000_25, w1000000_26))
def s_spec_l2Draw (n : Nat) (r_spec_l2Draw : Int → (List Int) → Int → Int → Option (Int × Int × (List UInt8) × (List S_impl_Term) × (List Int) × Int × Int)) (t1_0 : Int) (o0_0 : List Int) (o0_1 : Int) (o0_2 : Int) : Option (Int × Int × (List UInt8) × (List S_impl_Term) × (List Int) × Int × Int) :=
  (p_spec_l1Below n (8 : Int) o0_0 o0_1 o0_2).bind fun c8_1 => bif decide (c8_1.1 = (0 : Int)) then (p_spec_l1Below n (1000 : Int) c8_1.2.1 c8_1.2.2.1 c8_1.2.2.2).bind fun c15_3 => (p_spec_l1Int n ([(0 : Int), (1 : Int), (2 : Int), ((-1) : Int), (7 : Int), (1000000000000 : Int), ((-1000000000000) : Int), c15_3.1] : List Int) c15_3.2.1 c15_3.2.2.1 c15_3.2.2.2).bind fun c17_4 => some ((1 : Int), c17_4.1, ([] : List UInt8), ([] : List S_impl_Term), c17_4.2.1, c17_4.2.2.1, c17_4.2.2.2) else bif decide (c8_1.1 = (1 : Int)) then (p_spec_l1Below n (1000 : Int) c8_1.2.1 c8_1.2.2.1 c8_1.2.2.2).bind fun c15_6 => (p_spec_l1Int n ([(0 : Int), (1 : Int), (2 : Int), ((-1) : Int), (7 : Int), (1000000000000 : Int), ((-1000000000000) : Int), c15_6.1] : List Int) c15_6.2.1 c15_6.2.2.1 c15_6.2.2.2).bind fun c17_7 => some ((1 : Int), c17_7.1, ([] : List UInt8), ([] : List S_impl_Term), c17_7.2.1, c17_7.2.2.1, c17_7.2.2.2) else bif decide (c8_1.1 = (2 : Int)) then (p_spec_l1Below n (1000 : Int) c8_1.2.1 c8_1.2.2.1 c8_1.2.2.2).bind fun c15_9 => (p_spec_l1Int n ([(0 : Int), (1 : Int), (2 : Int), ((-1) : Int), (7 : Int), (1000000000000 : Int), ((-1000000000000) : Int), c15_9.1] : List Int) c15_9.2.1 c15_9.2.2.1 c15_9.2.2.2).bind fun c17_10 => some ((1 : Int), c17_10.1, ([] : List UInt8), ([] : List S_impl_Term), c17_10.2.1, c17_10.2.2.1, c17_10.2.2.2) else bif decide (c8_1.1 = (3 : Int)) then (p_spec_l1Str n ([([111, 107] : List UInt8), ([115, 116, 111, 112] : List UInt8), ([97] : List UInt8), ([116, 114, 117, 101] : List UInt8), ([97, 100, 100] : List UInt8)] : List (List UInt8)) c8_1.2.1 c8_1.2.2.1 c8_1.2.2.2).bind fun c24_12 => some ((2 : Int), (0 : Int), c24_12.1, ([] : List S_impl_Term), c24_12.2.1, c24_12.2.2.1, c24_12.2.2.2) else bif decide (c8_1.1 = (4 : Int)) then (p_spec_l1Str n ([([111, 107] : List UInt8), ([115, 116, 111, 112] : List UInt8), ([97] : List UInt8), ([116, 114, 117, 101] : List UInt8), ([97, 100, 100] : List UInt8)] : List (List UInt8)) c8_1.2.1 c8_1.2.2.1 c8_1.2.2.2).bind fun c24_14 => some ((2 : Int), (0 : Int), c24_14.1, ([] : List S_impl_Term), c24_14.2.1, c24_14.2.2.1, c24_14.2.2.2) else bif decide (c8_1.1 = (5 : Int)) then (p_spec_l1Below n (5 : Int) c8_1.2.1 c8_1.2.2.1 c8_1.2.2.2).bind fun c29_16 => some ((3 : Int), c29_16.1, ([] : List UInt8), ([] : List S_impl_Term), c29_16.2.1, c29_16.2.2.1, c29_16.2.2.2) else (p_spec_l1Int n ([(4 : Int), (5 : Int)] : List Int) c8_1.2.1 c8_1.2.2.1 c8_1.2.2.2).bind fun c33_17 => (p_spec_l1Below n (4 : Int) c33_17.2.1 c33_17.2.2.1 c33_17.2.2.2).bind fun c36_18 => (loopN (p_spec_l2Draw_b1 n r_spec_l2Draw t1_0) n (c36_18.1, c33_17.1, (0 : Int), ([] : List UInt8), ([] : List S_impl_Term), c36_18.2.1, c36_18.2.2.1, c36_18.2.2.2)).bind fun (v6_27, v42_28, w5_29, w5_30, w5_31, w5_32, w1000000_33, w1000000_34, w1000000_35) => some (w5_29, w5_30, w5_31, w5_32, w1000000_33, w1000000_34, w1000000_35)
theorem step_spec_l2Draw {n : Nat} {r_spec_l2Draw : Int → (List Int) → Int → Int → Option (Int × Int × (List UInt8) × (List S_impl_Term) × (List Int) × Int × Int)} (ih_spec_l2Draw : ∀ {t1_0 : Int} {o0_0 : List Int} {o0_1 : Int} {o0_2 : Int} {r : Int × Int × (List UInt8) × (List S_impl_Term) × (List Int) × Int × Int}, r_spec_l2Draw t1_0 o0_0 o0_1 o0_2 = some r → Big Try.prog τ An (.fn 63 [.one (.ptr 1000000 0), .one (.c (.int .i64 t1_0))] [[.sl (o0_0.map rI_u8), .int .i64 o0_1, .int .i64 o0_2]] (.one (.ag [.int .i64 r.1, .int .i64 r.2.1, .str r.2.2.1, .sl (r.2.2.2.1.map rS_impl_Term)])) none [[.sl (r.2.2.2.2.1.map rI_u8), .int .i64 r.2.2.2.2.2.1, .int .i64 r.2.2.2.2.2.2]] none)) {t1_0 : Int} {o0_0 : List Int} {o0_1 : Int} {o0_2 : Int} {r : Int × Int × (List UInt8) × (List S_impl_Term) × (List Int) × Int × Int} (h : s_spec_l2Draw n r_spec_l2Draw t1_0 o0_0 o0_1 o0_2 = some r) : Big Try.prog τ An (.fn 63 [.one (.ptr 1000000 0), .one (.c (.int .i64 t1_0))] [[.sl (o0_0.map rI_u8), .int .i64 o0_1, .int .i64 o0_2]] (.one (.ag [.int .i64 r.1, .int .i64 r.2.1, .str r.2.2.1, .sl (r.2.2.2.1.map rS_impl_Term)])) none [[.sl (r.2.2.2.2.1.map rI_u8), .int .i64 r.2.2.2.2.2.1, .int .i64 r.2.2.2.2.2.2]] none) := by
  unfold s_spec_l2Draw at h
  refine Big.of Try.func63 rfl rfl rfl rfl ?_
  have s0 : (DA [.one (.ptr 1000000 0), .one (.c (.int .i64 t1_0))] [[.sl (o0_0.map rI_u8), .int .i64 o0_1, .int .i64 o0_2]]).sl 0 = .one (.ptr 1000000 0) := rfl
  have s1 : (DA [.one (.ptr 1000000 0), .one (.c (.int .i64 t1_0))] [[.sl (o0_0.map rI_u8), .int .i64 o0_1, .int .i64 o0_2]]).sl 1 = .one (.c (.int .i64 t1_0)) := rfl
  have o1000000 : (DA [.one (.ptr 1000000 0), .one (.c (.int .i64 t1_0))] [[.sl (o0_0.map rI_u8), .int .i64 o0_1, .int .i64 o0_2]]).ob 1000000 = some [.sl (o0_0.map rI_u8), .int .i64 o0_1, .int .i64 o0_2] := rfl
  generalize DA [.one (.ptr 1000000 0), .one (.c (.int .i64 t1_0))] [[.sl (o0_0.map rI_u8), .int .i64 o0_1, .int .i64 o0_2]] = x at s0 s1 o1000000 ⊢
  refine c_reg (fun x => x.sl 0 = .one (.ptr 1000000 0) ∧ x.sl 1 = .one (.c (.int .i64 t1_0)) ∧ x.sl 4 = .one (.ptr 4 0) ∧ x.ob 4 = some [.int .i64 0, .int .i64 0, .str [], .sl ([].map rS_impl_Term)] ∧ x.ob 1000000 = some [.sl (o0_0.map rI_u8), .int .i64 o0_1, .int .i64 o0_2]) ?_ ?_
  · rw [← put_self s0, ← put_self s1, ← setO_self o1000000]
    refine alc (cs := [.int .i64 0, .int .i64 0, .str [], .sl ([].map rS_impl_Term)]) rfl rfl rfl rfl ?_
    refine step_nil ?_
    exact ⟨rfl, rfl, rfl, rfl, rfl⟩
  clear s0 s1 o1000000
  intro x hM
  obtain ⟨s0, s1, s4, o4, o1000000⟩ := hM
  refine c_seq ?_
  obtain ⟨c8_1, kc8_1, h⟩ := bind_some h
  refine c_reg (fun x => x.sl 0 = .one (.ptr 1000000 0) ∧ x.sl 1 = .one (.c (.int .i64 t1_0)) ∧ x.sl 4 = .one (.ptr 4 0) ∧ x.sl 8 = .one (.c (.int .i64 c8_1.1)) ∧ x.ob 4 = some [.int .i64 0, .int .i64 0, .str [], .sl ([].map rS_impl_Term)] ∧ x.ob 1000000 = some [.sl (c8_1.2.1.map rI_u8), .int .i64 c8_1.2.2.1, .int .i64 c8_1.2.2.2]) ?_ ?_
  · rw [← put_self s0, ← put_self s1, ← put_self s4, ← setO_self o4, ← setO_self o1000000]
    refine mv rfl (by conv => lhs; whnf) rfl ?_
    refine cl1 (v' := .one (.c (.int .i64 c8_1.1))) (big_spec_l1Below kc8_1) rfl rfl rfl rfl rfl rfl rfl rfl rfl rfl ?_
    refine step_nil ?_
    exact ⟨rfl, rfl, rfl, rfl, rfl, rfl⟩
  clear s0 s1 s4 o4 o1000000
  intro x hM
  obtain ⟨s0, s1, s4, s8, o4, o1000000⟩ := hM
  refine c_block ?_
  refine c_seq ?_
  refine c_reg (fun x => x.sl 0 = .one (.ptr 1000000 0) ∧ x.sl 1 = .one (.c (.int .i64 t1_0)) ∧ x.sl 4 = .one (.ptr 4 0) ∧ x.sl 8 = .one (.c (.int .i64 c8_1.1)) ∧ x.sl 9 = .one (.c (.bool (decide (c8_1.1 = (0 : Int))))) ∧ x.ob 4 = some [.int .i64 0, .int .i64 0, .str [], .sl ([].map rS_impl_Term)] ∧ x.ob 1000000 = some [.sl (c8_1.2.1.map rI_u8), .int .i64 c8_1.2.2.1, .int .i64 c8_1.2.2.2]) ?_ ?_
  · rw [← put_self s0, ← put_self s1, ← put_self s4, ← put_self s8, ← setO_self o4, ← setO_self o1000000]
    refine rd (.bool (decide (c8_1.1 = (0 : Int)))) rfl rfl rfl rfl rfl ?_
    refine asg rfl (by conv => lhs; whnf) rfl ?_
    refine step_nil ?_
    exact ⟨rfl, rfl, rfl, rfl, rfl, rfl, rfl⟩
  clear s0 s1 s4 s8 o4 o1000000
  intro x hM
  obtain ⟨s0, s1, s4, s8, s9, o4, o1000000⟩ := hM
  refine bif_cases h (fun q2 h => ?_) (fun q2 h => ?_)
  · refine c_ct (by rw [← q2]; exact s9) ?_
    refine c_skip ?_
    show vcC _ _ _ _ _ _ _
    refine c_ct (by rw [← q2]; exact s9) ?_
    obtain ⟨c15_3, kc15_3, h⟩ := bind_some h
    obtain ⟨c17_4, kc17_4, h⟩ := bind_some h
    refine c_reg (fun x => x.sl 4 = .one (.ptr 4 0) ∧ x.ob 4 = some [.int .i64 1, .int .i64 c17_4.1, .str [], .sl ([].map rS_impl_Term)] ∧ x.ob 1000000 = some [.sl (c17_4.2.1.map rI_u8), .int .i64 c17_4.2.2.1, .int .i64 c17_4.2.2.2]) ?_ ?_
    · rw [← put_self s0, ← put_self s1, ← put_self s4, ← put_self s8, ← put_self s9, ← setO_self o4, ← setO_self o1000000]
      refine mv rfl (by conv => lhs; whnf) rfl ?_
      refine mv rfl (by conv => lhs; whnf) rfl ?_
      refine cl1 (v' := .one (.c (.int .i64 c15_3.1))) (big_spec_l1Below kc15_3) rfl rfl rfl rfl rfl rfl rfl rfl rfl rfl ?_
      refine lit (L := ([(0 : Int), (1 : Int), (2 : Int), ((-1) : Int), (7 : Int), (1000000000000 : Int), ((-1000000000000) : Int), c15_3.1] : List Int)) (f := rI_i64) rfl rfl rfl rfl rfl rfl rfl ?_
      refine cl1 (v' := .one (.c (.int .i64 c17_4.1))) (big_spec_l1Int kc17_4) rfl rfl rfl rfl rfl rfl rfl rfl rfl rfl ?_
      refine bld (rs := [.int .i64 1, .int .i64 c17_4.1, .str [], .sl ([].map rS_impl_Term)]) rfl rfl rfl rfl rfl ?_
      refine sto (cs := [.int .i64 1, .int .i64 c17_4.1, .str [], .sl ([].map rS_impl_Term)]) rfl rfl (by conv => lhs; whnf) rfl rfl rfl rfl ?_
      refine step_nil ?_
      exact ⟨rfl, rfl, rfl⟩
    clear s0 s1 s4 s8 s9 o4 o1000000
    intro x hM
    obtain ⟨s4, o4, o1000000⟩ := hM
    refine c_ret ?_
    cases h
    show _ ∧ _
    rw [← put_self s4, ← setO_self o4, ← setO_self o1000000]
    exact ⟨.inr rfl, _, rfl, rfl, rfl, rfl⟩
  · refine c_cf (by rw [← q2]; exact s9) ?_
    refine c_reg (fun x => x.sl 0 = .one (.ptr 1000000 0) ∧ x.sl 1 = .one (.c (.int .i64 t1_0)) ∧ x.sl 4 = .one (.ptr 4 0) ∧ x.sl 8 = .one (.c (.int .i64 c8_1.1)) ∧ x.sl 9 = .one (.c (.bool (decide (c8_1.1 = (1 : Int))))) ∧ x.ob 4 = some [.int .i64 0, .int .i64 0, .str [], .sl ([].map rS_impl_Term)] ∧ x.ob 1000000 = some [.sl (c8_1.2.1.map rI_u8), .int .i64 c8_1.2.2.1, .int .i64 c8_1.2.2.2]) ?_ ?_
    · rw [← put_self s0, ← put_self s1, ← put_self s4, ← put_self s8, ← put_self s9, ← setO_self o4, ← setO_self o1000000]
      refine rd (.bool (decide (c8_1.1 = (1 : Int)))) rfl rfl rfl rfl rfl ?_
      refine asg rfl (by conv => lhs; whnf) rfl ?_
      refine step_nil ?_
      exact ⟨rfl, rfl, rfl, rfl, rfl, rfl, rfl⟩
    clear s0 s1 s4 s8 s9 o4 o1000000
    intro x hM
    obtain ⟨s0, s1, s4, s8, s9, o4, o1000000⟩ := hM
    refine bif_cases h (fun q5 h => ?_) (fun q5 h => ?_)
    · refine c_ct (by rw [← q5]; exact s9) ?_
      refine c_skip ?_
      show vcC _ _ _ _ _ _ _
      refine c_ct (by rw [← q5]; exact s9) ?_
      obtain ⟨c15_6, kc15_6, h⟩ := bind_some h
      obtain ⟨c17_7, kc17_7, h⟩ := bind_some h
      refine c_reg (fun x => x.sl 4 = .one (.ptr 4 0) ∧ x.ob 4 = some [.int .i64 1, .int .i64 c17_7.1, .str [], .sl ([].map rS_impl_Term)] ∧ x.ob 1000000 = some [.sl (c17_7.2.1.map rI_u8), .int .i64 c17_7.2.2.1, .int .i64 c17_7.2.2.2]) ?_ ?_
      · rw [← put_self s0, ← put_self s1, ← put_self s4, ← put_self s8, ← put_self s9, ← setO_self o4, ← setO_self o1000000]
        refine mv rfl (by conv => lhs; whnf) rfl ?_
        refine mv rfl (by conv => lhs; whnf) rfl ?_
        refine cl1 (v' := .one (.c (.int .i64 c15_6.1))) (big_spec_l1Below kc15_6) rfl rfl rfl rfl rfl rfl rfl rfl rfl rfl ?_
        refine lit (L := ([(0 : Int), (1 : Int), (2 : Int), ((-1) : Int), (7 : Int), (1000000000000 : Int), ((-1000000000000) : Int), c15_6.1] : List Int)) (f := rI_i64) rfl rfl rfl rfl rfl rfl rfl ?_
        refine cl1 (v' := .one (.c (.int .i64 c17_7.1))) (big_spec_l1Int kc17_7) rfl rfl rfl rfl rfl rfl rfl rfl rfl rfl ?_
        refine bld (rs := [.int .i64 1, .int .i64 c17_7.1, .str [], .sl ([].map rS_impl_Term)]) rfl rfl rfl rfl rfl ?_
        refine sto (cs := [.int .i64 1, .int .i64 c17_7.1, .str [], .sl ([].map rS_impl_Term)]) rfl rfl (by conv => lhs; whnf) rfl rfl rfl rfl ?_
        refine step_nil ?_
        exact ⟨rfl, rfl, rfl⟩
      clear s0 s1 s4 s8 s9 o4 o1000000
      intro x hM
      obtain ⟨s4, o4, o1000000⟩ := hM
      refine c_ret ?_
      cases h
      show _ ∧ _
      rw [← put_self s4, ← setO_self o4, ← setO_self o1000000]
      exact ⟨.inr rfl, _, rfl, rfl, rfl, rfl⟩
    · refine c_cf (by rw [← q5]; exact s9) ?_
      refine c_regl (fun x => x.sl 0 = .one (.ptr 1000000 0) ∧ x.sl 1 = .one (.c (.int .i64 t1_0)) ∧ x.sl 4 = .one (.ptr 4 0) ∧ x.sl 8 = .one (.c (.int .i64 c8_1.1)) ∧ x.sl 9 = .one (.c (.bool (decide (c8_1.1 = (2 : Int))))) ∧ x.ob 4 = some [.int .i64 0, .int .i64 0, .str [], .sl ([].map rS_impl_Term)] ∧ x.ob 1000000 = some [.sl (c8_1.2.1.map rI_u8), .int .i64 c8_1.2.2.1, .int .i64 c8_1.2.2.2]) ?_ ?_
      · rw [← put_self s0, ← put_self s1, ← put_self s4, ← put_self s8, ← put_self s9, ← setO_self o4, ← setO_self o1000000]
        refine rd (.bool (decide (c8_1.1 = (2 : Int)))) rfl rfl rfl rfl rfl ?_
        refine asg rfl (by conv => lhs; whnf) rfl ?_
        refine step_nil ?_
        exact ⟨rfl, rfl, rfl, rfl, rfl, rfl, rfl⟩
      clear s0 s1 s4 s8 s9 o4 o1000000
      intro x hM
      obtain ⟨s0, s1, s4, s8, s9, o4, o1000000⟩ := hM
      show vcC _ _ _ _ _ _ _
      refine bif_cases h (fun q8 h => ?_) (fun q8 h => ?_)
      · refine c_ct (by rw [← q8]; exact s9) ?_
        obtain ⟨c15_9, kc15_9, h⟩ := bind_some h
        obtain ⟨c17_10, kc17_10, h⟩ := bind_some h
        refine c_reg (fun x => x.sl 4 = .one (.ptr 4 0) ∧ x.ob 4 = some [.int .i64 1, .int .i64 c17_10.1, .str [], .sl ([].map rS_impl_Term)] ∧ x.ob 1000000 = some [.sl (c17_10.2.1.map rI_u8), .int .i64 c17_10.2.2.1, .int .i64 c17_10.2.2.2]) ?_ ?_
        · rw [← put_self s0, ← put_self s1, ← put_self s4, ← put_self s8, ← put_self s9, ← setO_self o4, ← setO_self o1000000]
          refine mv rfl (by conv => lhs; whnf) rfl ?_
          refine mv rfl (by conv => lhs; whnf) rfl ?_
          refine cl1 (v' := .one (.c (.int .i64 c15_9.1))) (big_spec_l1Below kc15_9) rfl rfl rfl rfl rfl rfl rfl rfl rfl rfl ?_
          refine lit (L := ([(0 : Int), (1 : Int), (2 : Int), ((-1) : Int), (7 : Int), (1000000000000 : Int), ((-1000000000000) : Int), c15_9.1] : List Int)) (f := rI_i64) rfl rfl rfl rfl rfl rfl rfl ?_
          refine cl1 (v' := .one (.c (.int .i64 c17_10.1))) (big_spec_l1Int kc17_10) rfl rfl rfl rfl rfl rfl rfl rfl rfl rfl ?_
          refine bld (rs := [.int .i64 1, .int .i64 c17_10.1, .str [], .sl ([].map rS_impl_Term)]) rfl rfl rfl rfl rfl ?_
          refine sto (cs := [.int .i64 1, .int .i64 c17_10.1, .str [], .sl ([].map rS_impl_Term)]) rfl rfl (by conv => lhs; whnf) rfl rfl rfl rfl ?_
          refine step_nil ?_
          exact ⟨rfl, rfl, rfl⟩
        clear s0 s1 s4 s8 s9 o4 o1000000
        intro x hM
        obtain ⟨s4, o4, o1000000⟩ := hM
        refine c_ret ?_
        cases h
        show _ ∧ _
        rw [← put_self s4, ← setO_self o4, ← setO_self o1000000]
        exact ⟨.inr rfl, _, rfl, rfl, rfl, rfl⟩
      · refine c_cf (by rw [← q8]; exact s9) ?_
        refine c_seq ?_
        refine c_reg (fun x => x.sl 0 = .one (.ptr 1000000 0) ∧ x.sl 1 = .one (.c (.int .i64 t1_0)) ∧ x.sl 4 = .one (.ptr 4 0) ∧ x.sl 8 = .one (.c (.int .i64 c8_1.1)) ∧ x.sl 19 = .one (.c (.bool (decide (c8_1.1 = (3 : Int))))) ∧ x.ob 4 = some [.int .i64 0, .int .i64 0, .str [], .sl ([].map rS_impl_Term)] ∧ x.ob 1000000 = some [.sl (c8_1.2.1.map rI_u8), .int .i64 c8_1.2.2.1, .int .i64 c8_1.2.2.2]) ?_ ?_
        · rw [← put_self s0, ← put_self s1, ← put_self s4, ← put_self s8, ← put_self s9, ← setO_self o4, ← setO_self o1000000]
          refine rd (.bool (decide (c8_1.1 = (3 : Int)))) rfl rfl rfl rfl rfl ?_
          refine asg rfl (by conv => lhs; whnf) rfl ?_
          refine step_nil ?_
          exact ⟨rfl, rfl, rfl, rfl, rfl, rfl, rfl⟩
        clear s0 s1 s4 s8 s9 o4 o1000000
        intro x hM
        obtain ⟨s0, s1, s4, s8, s19, o4, o1000000⟩ := hM
        refine bif_cases h (fun q11 h => ?_) (fun q11 h => ?_)
        · refine c_ct (by rw [← q11]; exact s19) ?_
          refine c_skip ?_
          show vcC _ _ _ _ _ _ _
          refine c_ct (by rw [← q11]; exact s19) ?_
          obtain ⟨c24_12, kc24_12, h⟩ := bind_some h
          refine c_reg (fun x => x.sl 4 = .one (.ptr 4 0) ∧ x.ob 4 = some [.int .i64 2, .int .i64 0, .str c24_12.1, .sl ([].map rS_impl_Term)] ∧ x.ob 1000000 = some [.sl (c24_12.2.1.map rI_u8), .int .i64 c24_12.2.2.1, .int .i64 c24_12.2.2.2]) ?_ ?_
          · rw [← put_self s0, ← put_self s1, ← put_self s4, ← put_self s8, ← put_self s19, ← setO_self o4, ← setO_self o1000000]
            refine mv rfl (by conv => lhs; whnf) rfl ?_
            refine lit (L := ([([111, 107] : List UInt8), ([115, 116, 111, 112] : List UInt8), ([97] : List UInt8), ([116, 114, 117, 101] : List UInt8), ([97, 100, 100] : List UInt8)] : List (List UInt8))) (f := rStr) rfl rfl rfl rfl rfl rfl rfl ?_
            refine cl1 (v' := .one (.c (.str c24_12.1))) (big_spec_l1Str kc24_12) rfl rfl rfl rfl rfl rfl rfl rfl rfl rfl ?_
            refine bld (rs := [.int .i64 2, .int .i64 0, .str c24_12.1, .sl ([].map rS_impl_Term)]) rfl rfl rfl rfl rfl ?_
            refine sto (cs := [.int .i64 2, .int .i64 0, .str c24_12.1, .sl ([].map rS_impl_Term)]) rfl rfl (by conv => lhs; whnf) rfl rfl rfl rfl ?_
            refine step_nil ?_
            exact ⟨rfl, rfl, rfl⟩
          clear s0 s1 s4 s8 s19 o4 o1000000
          intro x hM
          obtain ⟨s4, o4, o1000000⟩ := hM
          refine c_ret ?_
          cases h
          show _ ∧ _
          rw [← put_self s4, ← setO_self o4, ← setO_self o1000000]
          exact ⟨.inr rfl, _, rfl, rfl, rfl, rfl⟩
        · refine c_cf (by rw [← q11]; exact s19) ?_
          refine c_regl (fun x => x.sl 0 = .one (.ptr 1000000 0) ∧ x.sl 1 = .one (.c (.int .i64 t1_0)) ∧ x.sl 4 = .one (.ptr 4 0) ∧ x.sl 8 = .one (.c (.int .i64 c8_1.1)) ∧ x.sl 19 = .one (.c (.bool (decide (c8_1.1 = (4 : Int))))) ∧ x.ob 4 = some [.int .i64 0, .int .i64 0, .str [], .sl ([].map rS_impl_Term)] ∧ x.ob 1000000 = some [.sl (c8_1.2.1.map rI_u8), .int .i64 c8_1.2.2.1, .int .i64 c8_1.2.2.2]) ?_ ?_
          · rw [← put_self s0, ← put_self s1, ← put_self s4, ← put_self s8, ← put_self s19, ← setO_self o4, ← setO_self o1000000]
            refine rd (.bool (decide (c8_1.1 = (4 : Int)))) rfl rfl rfl rfl rfl ?_
            refine asg rfl (by conv => lhs; whnf) rfl ?_
            refine step_nil ?_
            exact ⟨rfl, rfl, rfl, rfl, rfl, rfl, rfl⟩
          clear s0 s1 s4 s8 s19 o4 o1000000
          intro x hM
          obtain ⟨s0, s1, s4, s8, s19, o4, o1000000⟩ := hM
          show vcC _ _ _ _ _ _ _
          refine bif_cases h (fun q13 h => ?_) (fun q13 h => ?_)
          · refine c_ct (by rw [← q13]; exact s19) ?_
            obtain ⟨c24_14, kc24_14, h⟩ := bind_some h
            refine c_reg (fun x => x.sl 4 = .one (.ptr 4 0) ∧ x.ob 4 = some [.int .i64 2, .int .i64 0, .str c24_14.1, .sl ([].map rS_impl_Term)] ∧ x.ob 1000000 = some [.sl (c24_14.2.1.map rI_u8), .int .i64 c24_14.2.2.1, .int .i64 c24_14.2.2.2]) ?_ ?_
            · rw [← put_self s0, ← put_self s1, ← put_self s4, ← put_self s8, ← put_self s19, ← setO_self o4, ← setO_self o1000000]
              refine mv rfl (by conv => lhs; whnf) rfl ?_
              refine lit (L := ([([111, 107] : List UInt8), ([115, 116, 111, 112] : List UInt8), ([97] : List UInt8), ([116, 114, 117, 101] : List UInt8), ([97, 100, 100] : List UInt8)] : List (List UInt8))) (f := rStr) rfl rfl rfl rfl rfl rfl rfl ?_
              refine cl1 (v' := .one (.c (.str c24_14.1))) (big_spec_l1Str kc24_14) rfl rfl rfl rfl rfl rfl rfl rfl rfl rfl ?_
              refine bld (rs := [.int .i64 2, .int .i64 0, .str c24_14.1, .sl ([].map rS_impl_Term)]) rfl rfl rfl rfl rfl ?_
              refine sto (cs := [.int .i64 2, .int .i64 0, .str c24_14.1, .sl ([].map rS_impl_Term)]) rfl rfl (by conv => lhs; whnf) rfl rfl rfl rfl ?_
              refine step_nil ?_
              exact ⟨rfl, rfl, rfl⟩
            clear s0 s1 s4 s8 s19 o4 o1000000
            intro x hM
            obtain ⟨s4, o4, o1000000⟩ := hM
            refine c_ret ?_
            cases h
            show _ ∧ _
            rw [← put_self s4, ← setO_self o4, ← setO_self o1000000]
            exact ⟨.inr rfl, _, rfl, rfl, rfl, rfl⟩
          · refine c_cf (by rw [← q13]; exact s19) ?_
            refine c_reg (fun x => x.sl 0 = .one (.ptr 1000000 0) ∧ x.sl 1 = .one (.c (.int .i64 t1_0)) ∧ x.sl 4 = .one (.ptr 4 0) ∧ x.sl 26 = .one (.c (.bool (decide (c8_1.1 = (5 : Int))))) ∧ x.ob 4 = some [.int .i64 0, .int .i64 0, .str [], .sl ([].map rS_impl_Term)] ∧ x.ob 1000000 = some [.sl (c8_1.2.1.map rI_u8), .int .i64 c8_1.2.2.1, .int .i64 c8_1.2.2.2]) ?_ ?_
            · rw [← put_self s0, ← put_self s1, ← put_self s4, ← put_self s8, ← put_self s19, ← setO_self o4, ← setO_self o1000000]
              refine rd (.bool (decide (c8_1.1 = (5 : Int)))) rfl rfl rfl rfl rfl ?_
              refine asg rfl (by conv => lhs; whnf) rfl ?_
              refine step_nil ?_
              exact ⟨rfl, rfl, rfl, rfl, rfl, rfl⟩
            clear s0 s1 s4 s8 s19 o4 o1000000
            intro x hM
            obtain ⟨s0, s1, s4, s26, o4, o1000000⟩ := hM
            refine bif_cases h (fun q15 h => ?_) (fun q15 h => ?_)
            · refine c_ct (by rw [← q15]; exact s26) ?_
              obtain ⟨c29_16, kc29_16, h⟩ := bind_some h
              refine c_reg (fun x => x.sl 4 = .one (.ptr 4 0) ∧ x.ob 4 = some [.int .i64 3, .int .i64 c29_16.1, .str [], .sl ([].map rS_impl_Term)] ∧ x.ob 1000000 = some [.sl (c29_16.2.1.map rI_u8), .int .i64 c29_16.2.2.1, .int .i64 c29_16.2.2.2]) ?_ ?_
              · rw [← put_self s0, ← put_self s1, ← put_self s4, ← put_self s26, ← setO_self o4, ← setO_self o1000000]
                refine mv rfl (by conv => lhs; whnf) rfl ?_
                refine cl1 (v' := .one (.c (.int .i64 c29_16.1))) (big_spec_l1Below kc29_16) rfl rfl rfl rfl rfl rfl rfl rfl rfl rfl ?_
                refine bld (rs := [.int .i64 3, .int .i64 c29_16.1, .str [], .sl ([].map rS_impl_Term)]) rfl rfl rfl rfl rfl ?_
                refine sto (cs := [.int .i64 3, .int .i64 c29_16.1, .str [], .sl ([].map rS_impl_Term)]) rfl rfl (by conv => lhs; whnf) rfl rfl rfl rfl ?_
                refine step_nil ?_
                exact ⟨rfl, rfl, rfl⟩
              clear s0 s1 s4 s26 o4 o1000000
              intro x hM
              obtain ⟨s4, o4, o1000000⟩ := hM
              refine c_ret ?_
              cases h
              show _ ∧ _
              rw [← put_self s4, ← setO_self o4, ← setO_self o1000000]
              exact ⟨.inr rfl, _, rfl, rfl, rfl, rfl⟩
            · refine c_cf (by rw [← q15]; exact s26) ?_
              refine c_skip ?_
              show vcC _ _ _ _ _ _ _
              obtain ⟨c33_17, kc33_17, h⟩ := bind_some h
              refine c_reg (fun x => x.sl 0 = .one (.ptr 1000000 0) ∧ x.sl 1 = .one (.c (.int .i64 t1_0)) ∧ x.sl 4 = .one (.ptr 4 0) ∧ x.sl 5 = .one (.ptr 5 0) ∧ x.ob 4 = some [.int .i64 0, .int .i64 0, .str [], .sl ([].map rS_impl_Term)] ∧ x.ob 5 = some [.int .i64 c33_17.1, .int .i64 0, .str [], .sl ([].map rS_impl_Term)] ∧ x.ob 1000000 = some [.sl (c33_17.2.1.map rI_u8), .int .i64 c33_17.2.2.1, .int .i64 c33_17.2.2.2]) ?_ ?_
              · rw [← put_self s0, ← put_self s1, ← put_self s4, ← put_self s26, ← setO_self o4, ← setO_self o1000000]
                refine mv rfl (by conv => lhs; whnf) rfl ?_
                refine lit (L := ([(4 : Int), (5 : Int)] : List Int)) (f := rI_i64) rfl rfl rfl rfl rfl rfl rfl ?_
                refine cl1 (v' := .one (.c (.int .i64 c33_17.1))) (big_spec_l1Int kc33_17) rfl rfl rfl rfl rfl rfl rfl rfl rfl rfl ?_
                refine bld (rs := [.int .i64 c33_17.1, .int .i64 0, .str [], .sl ([].map rS_impl_Term)]) rfl rfl rfl rfl rfl ?_
                refine alc (cs := [.int .i64 0, .int .i64 0, .str [], .sl ([].map rS_impl_Term)]) rfl rfl rfl rfl ?_
                refine sto (cs := [.int .i64 c33_17.1, .int .i64 0, .str [], .sl ([].map rS_impl_Term)]) rfl rfl (by conv => lhs; whnf) rfl rfl rfl rfl ?_
                refine step_nil ?_
                exact ⟨rfl, rfl, rfl, rfl, rfl, rfl, rfl⟩
              clear s0 s1 s4 s26 o4 o1000000
              intro x hM
              obtain ⟨s0, s1, s4, s5, o4, o5, o1000000⟩ := hM
              refine c_seq ?_
              obtain ⟨c36_18, kc36_18, h⟩ := bind_some h
              refine c_reg (fun x => x.sl 0 = .one (.ptr 1000000 0) ∧ x.sl 1 = .one (.c (.int .i64 t1_0)) ∧ x.sl 4 = .one (.ptr 4 0) ∧ x.sl 5 = .one (.ptr 5 0) ∧ x.sl 6 = .one (.c (.int .i64 c36_18.1)) ∧ x.ob 4 = some [.int .i64 0, .int .i64 0, .str [], .sl ([].map rS_impl_Term)] ∧ x.ob 5 = some [.int .i64 c33_17.1, .int .i64 0, .str [], .sl ([].map rS_impl_Term)] ∧ x.ob 1000000 = some [.sl (c36_18.2.1.map rI_u8), .int .i64 c36_18.2.2.1, .int .i64 c36_18.2.2.2]) ?_ ?_
              · rw [← put_self s0, ← put_self s1, ← put_self s4, ← put_self s5, ← setO_self o4, ← setO_self o5, ← setO_self o1000000]
                refine mv rfl (by conv => lhs; whnf) rfl ?_
                refine cl1 (v' := .one (.c (.int .i64 c36_18.1))) (big_spec_l1Below kc36_18) rfl rfl rfl rfl rfl rfl rfl rfl rfl rfl ?_
                refine asg rfl (by conv => lhs; whnf) rfl ?_
                refine step_nil ?_
                exact ⟨rfl, rfl, rfl, rfl, rfl, rfl, rfl, rfl⟩
              clear s0 s1 s4 s5 o4 o5 o1000000
              intro x hM
              obtain ⟨s0, s1, s4, s5, s6, o4, o5, o1000000⟩ := hM
              obtain ⟨q41, hq, h⟩ := bind_some h
              refine c_block ?_
              refine Wd.loopN (fun s x => match (generalizing := false) s with | (v6_19, w5_20, w5_21, w5_22, w5_23, w1000000_24, w1000000_25, w1000000_26) => x.sl 0 = .one (.ptr 1000000 0) ∧ x.sl 1 = .one (.c (.int .i64 t1_0)) ∧ x.sl 4 = .one (.ptr 4 0) ∧ x.sl 5 = .one (.ptr 5 0) ∧ x.sl 6 = .one (.c (.int .i64 v6_19)) ∧ x.ob 4 = some [.int .i64 0, .int .i64 0, .str [], .sl ([].map rS_impl_Term)] ∧ x.ob 5 = some [.int .i64 w5_20, .int .i64 w5_21, .str w5_22, .sl (w5_23.map rS_impl_Term)] ∧ x.ob 1000000 = some [.sl (w1000000_24.map rI_u8), .int .i64 w1000000_25, .int .i64 w1000000_26]) (fun q e x => match (generalizing := false) q with | (v6_27, v42_28, w5_29, w5_30, w5_31, w5_32, w1000000_33, w1000000_34, w1000000_35) => e = .e 1 ∧ x.sl 0 = .one (.ptr 1000000 0) ∧ x.sl 1 = .one (.c (.int .i64 t1_0)) ∧ x.sl 4 = .one (.ptr 4 0) ∧ x.sl 5 = .one (.ptr 5 0) ∧ x.sl 6 = .one (.c (.int .i64 v6_27)) ∧ x.sl 42 = .one (.c (.bool v42_28)) ∧ x.ob 4 = some [.int .i64 0, .int .i64 0, .str [], .sl ([].map rS_impl_Term)] ∧ x.ob 5 = some [.int .i64 w5_29, .int .i64 w5_30, .str w5_31, .sl (w5_32.map rS_impl_Term)] ∧ x.ob 1000000 = some [.sl (w1000000_33.map rI_u8), .int .i64 w1000000_34, .int .i64 w1000000_35]) ?_ hq (⟨s0, s1, s4, s5, s6, o4, o5, o1000000⟩) ?_
              · clear h hq
                clear s0 s1 s4 s5 s6 o4 o5 o1000000
                intro st o x hR h
                obtain ⟨v6_19, w5_20, w5_21, w5_22, w5_23, w1000000_24, w1000000_25, w1000000_26⟩ := st
                obtain ⟨s0, s1, s4, s5, s6, o4, o5, o1000000⟩ := hR
                unfold p_spec_l2Draw_b1 at h
                refine c_seq ?_
                obtain ⟨v42_36, hr, h⟩ := bind_some h
                refine c_reg (fun x => x.sl 0 = .one (.ptr 1000000 0) ∧ x.sl 1 = .one (.c (.int .i64 t1_0)) ∧ x.sl 4 = .one (.ptr 4 0) ∧ x.sl 5 = .one (.ptr 5 0) ∧ x.sl 6 = .one (.c (.int .i64 v6_19)) ∧ x.sl 42 = .one (.c (.bool v42_36)) ∧ x.ob 4 = some [.int .i64 0, .int .i64 0, .str [], .sl ([].map rS_impl_Term)] ∧ x.ob 5 = some [.int .i64 w5_20, .int .i64 w5_21, .str w5_22, .sl (w5_23.map rS_impl_Term)] ∧ x.ob 1000000 = some [.sl (w1000000_24.map rI_u8), .int .i64 w1000000_25, .int .i64 w1000000_26]) ?_ ?_
                · clear h
                  rw [← put_self s0, ← put_self s1, ← put_self s4, ← put_self s5, ← put_self s6, ← setO_self o4, ← setO_self o5, ← setO_self o1000000]
                  refine mv rfl (by conv => lhs; whnf) rfl ?_
                  refine rd (.bool (decide ((0 : Int) < v6_19))) rfl rfl rfl rfl rfl ?_
                  refine mv rfl (by conv => lhs; whnf) rfl ?_
                  refine bif_cases hr (fun q37 hr => ?_) (fun q37 hr => ?_)
                  · refine mv (g_ofc rfl (by conv => lhs; whnf) q37 rfl) (by conv => lhs; whnf) rfl ?_
                    refine rd (.bool (decide ((0 : Int) < t1_0))) (g_ofc rfl (by conv => lhs; whnf) q37 rfl) rfl rfl rfl rfl ?_
                    refine pkc rfl (by conv => lhs; whnf) q37 (by conv => lhs; whnf) rfl ?_
                    refine step_nil ?_
                    cases hr
                    exact ⟨rfl, rfl, rfl, rfl, rfl, rfl, rfl, rfl, rfl⟩
                  · refine sk (g_ofc rfl (by conv => lhs; whnf) q37 rfl) ?_
                    refine sk (g_ofc rfl (by conv => lhs; whnf) q37 rfl) ?_
                    refine pkc rfl (by conv => lhs; whnf) q37 (by conv => lhs; whnf) rfl ?_
                    refine step_nil ?_
                    cases hr
                    exact ⟨rfl, rfl, rfl, rfl, rfl, rfl, rfl, rfl, rfl⟩
                clear hr
                clear s0 s1 s4 s5 s6 o4 o5 o1000000
                intro x hM
                obtain ⟨s0, s1, s4, s5, s6, s42, o4, o5, o1000000⟩ := hM
                refine bif_cases h (fun q38 h => ?_) (fun q38 h => ?_)
                · refine c_ct (by rw [← q38]; exact s42) ?_
                  refine c_skip ?_
                  show vcC _ _ _ _ _ _ _
                  refine c_seq ?_
                  refine c_block ?_
                  obtain ⟨c50_39, kc50_39, h⟩ := bind_some h
                  obtain ⟨v52_40, kv52_40, h⟩ := bind_some h
                  refine c_regl (fun x => x.sl 0 = .one (.ptr 1000000 0) ∧ x.sl 1 = .one (.c (.int .i64 t1_0)) ∧ x.sl 4 = .one (.ptr 4 0) ∧ x.sl 5 = .one (.ptr 5 0) ∧ x.sl 6 = .one (.c (.int .i64 v6_19)) ∧ x.ob 4 = some [.int .i64 0, .int .i64 0, .str [], .sl ([].map rS_impl_Term)] ∧ x.ob 5 = some [.int .i64 w5_20, .int .i64 w5_21, .str w5_22, .sl (v52_40.map rS_impl_Term)] ∧ x.ob 1000000 = some [.sl (c50_39.2.2.2.2.1.map rI_u8), .int .i64 c50_39.2.2.2.2.2.1, .int .i64 c50_39.2.2.2.2.2.2]) ?_ ?_
                  · rw [← put_self s0, ← put_self s1, ← put_self s4, ← put_self s5, ← put_self s6, ← put_self s42, ← setO_self o4, ← setO_self o5, ← setO_self o1000000]
                    refine fld (u := .one (.ptr 5 3)) rfl rfl rfl (by conv => lhs; whnf) rfl rfl ?_
                    refine ldo (w := .one (.c (.sl (w5_23.map rS_impl_Term)))) rfl rfl rfl (by conv => lhs; whnf) rfl rfl rfl ?_
                    refine mv rfl (by conv => lhs; whnf) rfl ?_
                    refine mv rfl (by conv => lhs; whnf) rfl ?_
                    refine rd (.int .i64 (IntKind.wrap .i64 (t1_0 - (1 : Int)))) rfl rfl rfl rfl rfl ?_
                    refine cl1 (v' := .one (.ag [.int .i64 c50_39.1, .int .i64 c50_39.2.1, .str c50_39.2.2.1, .sl (c50_39.2.2.2.1.map rS_impl_Term)])) (ih_spec_l2Draw kc50_39) rfl rfl rfl rfl rfl rfl rfl rfl rfl rfl ?_
                    refine lit (L := ([S_impl_Term.mk c50_39.1 c50_39.2.1 c50_39.2.2.1 c50_39.2.2.2.1] : List S_impl_Term)) (f := rS_impl_Term) rfl rfl rfl rfl (by simp only [List.map, rS_impl_Term_mk]) rfl rfl ?_
                    refine apd (f := rS_impl_Term) kv52_40 rfl rfl rfl rfl (by conv => lhs; whnf) rfl rfl rfl (fun a => by rw [rS_impl_Term_eq]; rfl) (fun a => by rw [rS_impl_Term_eq]; rfl) rfl ?_
                    refine fld (u := .one (.ptr 5 3)) rfl rfl rfl (by conv => lhs; whnf) rfl rfl ?_
                    refine sto (cs := [.int .i64 w5_20, .int .i64 w5_21, .str w5_22, .sl (v52_40.map rS_impl_Term)]) rfl rfl (by conv => lhs; whnf) rfl rfl rfl rfl ?_
                    refine step_nil ?_
                    exact ⟨rfl, rfl, rfl, rfl, rfl, rfl, rfl, rfl⟩
                  clear s0 s1 s4 s5 s6 s42 o4 o5 o1000000
                  intro x hM
                  obtain ⟨s0, s1, s4, s5, s6, o4, o5, o1000000⟩ := hM
                  show vcC _ _ _ _ _ _ _
                  refine c_regl (fun x => x.sl 0 = .one (.ptr 1000000 0) ∧ x.sl 1 = .one (.c (.int .i64 t1_0)) ∧ x.sl 4 = .one (.ptr 4 0) ∧ x.sl 5 = .one (.ptr 5 0) ∧ x.sl 6 = .one (.c (.int .i64 (IntKind.wrap .i64 (v6_19 - (1 : Int))))) ∧ x.ob 4 = some [.int .i64 0, .int .i64 0, .str [], .sl ([].map rS_impl_Term)] ∧ x.ob 5 = some [.int .i64 w5_20, .int .i64 w5_21, .str w5_22, .sl (v52_40.map rS_impl_Term)] ∧ x.ob 1000000 = some [.sl (c50_39.2.2.2.2.1.map rI_u8), .int .i64 c50_39.2.2.2.2.2.1, .int .i64 c50_39.2.2.2.2.2.2]) ?_ ?_
                  · rw [← put_self s0, ← put_self s1, ← put_self s4, ← put_self s5, ← put_self s6, ← setO_self o4, ← setO_self o5, ← setO_self o1000000]
                    refine mv rfl (by conv => lhs; whnf) rfl ?_
                    refine rd (.int .i64 (IntKind.wrap .i64 (v6_19 - (1 : Int)))) rfl rfl rfl rfl rfl ?_
                    refine asg rfl (by conv => lhs; whnf) rfl ?_
                    refine step_nil ?_
                    exact ⟨rfl, rfl, rfl, rfl, rfl, rfl, rfl, rfl⟩
                  clear s0 s1 s4 s5 s6 o4 o5 o1000000
                  intro x hM
                  obtain ⟨s0, s1, s4, s5, s6, o4, o5, o1000000⟩ := hM
                  cases h
                  show _ ∧ _
                  exact ⟨rfl, s0, s1, s4, s5, s6, o4, o5, o1000000⟩
                · refine c_cf (by rw [← q38]; exact s42) ?_
                  refine c_exit ?_
                  cases h
                  show _ ∧ _
                  exact ⟨nofun, rfl, s0, s1, s4, s5, s6, s42, o4, o5, o1000000⟩
              clear hq
              clear s0 s1 s4 s5 s6 o4 o5 o1000000
              intro e x hM
              obtain ⟨v6_27, v42_28, w5_29, w5_30, w5_31, w5_32, w1000000_33, w1000000_34, w1000000_35⟩ := q41
              obtain ⟨rfl, s0, s1, s4, s5, s6, s42, o4, o5, o1000000⟩ := hM
              show vcC _ _ _ _ _ _ _
              refine c_reg (fun x => x.sl 4 = .one (.ptr 4 0) ∧ x.ob 4 = some [.int .i64 w5_29, .int .i64 w5_30, .str w5_31, .sl (w5_32.map rS_impl_Term)] ∧ x.ob 5 = some [.int .i64 w5_29, .int .i64 w5_30, .str w5_31, .sl (w5_32.map rS_impl_Term)] ∧ x.ob 1000000 = some [.sl (w1000000_33.map rI_u8), .int .i64 w1000000_34, .int .i64 w1000000_35]) ?_ ?_
              · rw [← put_self s0, ← put_self s1, ← put_self s4, ← put_self s5, ← put_self s6, ← put_self s42, ← setO_self o4, ← setO_self o5, ← setO_self o1000000]
                refine ldo (w := .one (.ag [.int .i64 w5_29, .int .i64 w5_30, .str w5_31, .sl (w5_32.map rS_impl_Term)])) rfl rfl rfl (by conv => lhs; whnf) rfl rfl rfl ?_
                refine sto (cs := [.int .i64 w5_29, .int .i64 w5_30, .str w5_31, .sl (w5_32.map rS_impl_Term)]) rfl rfl (by conv => lhs; whnf) rfl rfl rfl rfl ?_
                refine step_nil ?_
                exact ⟨rfl, rfl, rfl, rfl⟩
              clear s0 s1 s4 s5 s6 s42 o4 o5 o1000000
              intro x hM
              obtain ⟨s4, o4, o5, o1000000⟩ := hM
              refine c_ret ?_
              cases h
              show _ ∧ _
              rw [← put_self s4, ← setO_self o4, ← setO_self o1000000]
              exact ⟨.inr rfl, _, rfl, rfl, rfl, rfl⟩
def q_spec_l2Draw : Nat → (Int → (List Int) → Int → Int → Option (Int × Int × (List UInt8) × (List S_impl_Term) × (List Int) × Int × Int))
  | 0 => (fun _ _ _ _ => none)
  | n + 1 => s_spec_l2Draw n (q_spec_l2Draw n)
def p_spec_l2Draw (n : Nat) : Int → (List Int) → Int → Int → Option (Int × Int × (List UInt8) × (List S_impl_Term) × (List Int) × Int × Int) := q_spec_l2Draw n
theorem bigs_spec_l2Draw : ∀ n : Nat, (∀ {t1_0 : Int} {o0_0 : List Int} {o0_1 : Int} {o0_2 : Int} {r : Int × Int × (List UInt8) × (List S_impl_Term) × (List Int) × Int × Int}, p_spec_l2Draw n t1_0 o0_0 o0_1 o0_2 = some r → Big Try.prog τ An (.fn 63 [.one (.ptr 1000000 0), .one (.c (.int .i64 t1_0))] [[.sl (o0_0.map rI_u8), .int .i64 o0_1, .int .i64 o0_2]] (.one (.ag [.int .i64 r.1, .int .i64 r.2.1, .str r.2.2.1, .sl (r.2.2.2.1.map rS_impl_Term)])) none [[.sl (r.2.2.2.2.1.map rI_u8), .int .i64 r.2.2.2.2.2.1, .int .i64 r.2.2.2.2.2.2]] none)) := by
  intro n
  induction n with
  | zero => exact (fun h => nomatch h)
  | succ n ih => exact (fun h => step_spec_l2Draw (n := n) (ih) h)
theorem big_spec_l2Draw {n : Nat} {t1_0 : Int} {o0_0 : List Int} {o0_1 : Int} {o0_2 : Int} {r : Int × Int × (List UInt8) × (List S_impl_Term) × (List Int) × Int × Int} (h : p_spec_l2Draw n t1_0 o0_0 o0_1 o0_2 = some r) : Big Try.prog τ An (.fn 63 [.one (.ptr 1000000 0), .one (.c (.int .i64 t1_0))] [[.sl (o0_0.map rI_u8), .int .i64 o0_1, .int .i64 o0_2]] (.one (.ag [.int .i64 r.1, .int .i64 r.2.1, .str r.2.2.1, .sl (r.2.2.2.1.map rS_impl_Term)])) none [[.sl (r.2.2.2.2.1.map rI_u8), .int .i64 r.2.2.2.2.2.1, .int .i64 r.2.2.2.2.2.2]] none) := (bigs_spec_l2Draw n) h
theorem p_spec_l2Draw_succ (n : Nat) : p_spec_l2Draw (n + 1) = s_spec_l2Draw n (p_spec_l2Draw n) := rfl
def p_spec_DrawSendsOf_b1 (n : Nat) : (Int × Int × Int × (List UInt8) × (List S_impl_Term) × (List Int) × Int × Int) → Option ((Int × Int × Int × (List UInt8) × (List S_impl_Term) × (List Int) × Int × Int) ⊕ ((Int × Bool × Int × Int × (List UInt8) × (List S_impl_Term) × (List Int) × Int × Int)))
  | (v5_3, w4_4, w4_5, w4_6, w4_7, w8_8, w8_9, w8_10) => bif decide ((0 : Int) < v5_3) then (((p_spec_l13Atom n ([97] : List UInt8)).bind fun c16_32 => (p_spec_l1Once n (3 : Int) w8_8 w8_9 w8_10).bind fun c18_33 => bif c18_33.1 then (p_spec_l2Draw n (0 : Int) c18_33.2.1 c18_33.2.2.1 c18_33.2.2.2).bind fun c20_35 => (p_spec_l2Draw n (1 : Int) c20_35.2.2.2.2.1 c20_35.2.2.2.2.2.1 c20_35.2.2.2.2.2.2).bind fun c25_36 => (app2 56 w4_7 ([S_impl_Term.mk (4 : Int) (0 : Int) ([] : List UInt8) ([S_impl_Term.mk c20_35.1 c20_35.2.1 c20_35.2.2.1 c20_35.2.2.2.1, S_impl_Term.mk c25_36.1 c25_36.2.1 c25_36.2.2.1 c25_36.2.2.2.1] : List S_impl_Term)] : List S_impl_Term)).bind fun v29_37 => some (w4_4, w4_5, w4_6, v29_37, c20_35.1, c20_35.2.1, c20_35.2.2.1, c20_35.2.2.2.1, c25_36.2.2.2.2.1, c25_36.2.2.2.2.2.1, c25_36.2.2.2.2.2.2) else (p_spec_l2Draw n (1 : Int) c18_33.2.1 c18_33.2.2.1 c18_33.2.2.2).bind fun c25_38 => (app2 56 w4_7 ([S_impl_Term.mk (4 : Int) (0 : Int) ([] : List UInt8) ([S_impl_Term.mk c16_32.1 c16_32.2.1 c16_32.2.2.1 c16_32.2.2.2, S_impl_Term.mk c25_38.1 c25_38.2.1 c25_38.2.2.1 c25_38.2.2.2.1] : List S_impl_Term)] : List S_impl_Term)).bind fun v29_39 => some (w4_4, w4_5, w4_6, v29_39, c16_32.1, c16_32.2.1, c16_32.2.2.1, c16_32.2.2.2, c25_38.2.2.2.2.1, c25_38.2.2.2.2.2.1, c25_38.2.2.2.2.2.2) : Option ((Int × Int × (List UInt8) × (List S_impl_Term) × Int × Int × (List UInt8) × (List S_impl_Term) × (List Int) × Int × Int)))).bind fun (w4_21, w4_22, w4_23, w4_24, w6_25, w6_26, w6_27, w6_28, w8_29, w8_30, w8_31) => some (.inl ((IntKind.wrap .i64 (v5_3 - (1 : Int))), w4_21, w4_22, w4_23, w4_24, w8_29, w8_30, w8_31)) else some (.inr (v5_3, (decide ((0 : Int) < v5_3)), w4_4, w4_5, w4_6, w4_7, w8_8, w8_9, w8_10))
def p_spec_DrawSendsOf (n : Nat) (t0_0 : List Int) : Option (Int × Int × (List UInt8) × (List S_impl_Term)) :=
  (p_spec_l1New n t0_0).bind fun c8_1 => (p_spec_l1Below n (4 : Int) c8_1.1 c8_1.2.1 c8_1.2.2).bind fun c11_2 => (loopN (p_spec_DrawSendsOf_b1 n) n (c11_2.1, (5 : Int), (0 : Int), ([] : List UInt8), ([] : List S_impl_Term), c11_2.2.1, c11_2.2.2.1, c11_2.2.2.2)).bind fun (v5_11, v13_12, w4_13, w4_14, w4_15, w4_16, w8_17, w8_18, w8_19) => (p_spec_l1Once n (6 : Int) w8_17 w8_18 w8_19).bind fun c32_42 => bif c32_42.1 then (p_spec_l2Draw n (1 : Int) c32_42.2.1 c32_42.2.2.1 c32_42.2.2.2).bind fun c36_44 => (app2 56 w4_16 ([S_impl_Term.mk c36_44.1 c36_44.2.1 c36_44.2.2.1 c36_44.2.2.2.1] : List S_impl_Term)).bind fun v38_45 => (p_spec_l1Once n (12 : Int) c36_44.2.2.2.2.1 c36_44.2.2.2.2.2.1 c36_44.2.2.2.2.2.2).bind fun c41_46 => bif c41_46.1 then some ((4 : Int), w4_14, w4_15, v38_45) else some (w4_13, w4_14, w4_15, v38_45) else (p_spec_l1Once n (12 : Int) c32_42.2.1 c32_42.2.2.1 c32_42.2.2.2).bind fun c41_48 => bif c41_48.1 then some ((4 : Int), w4_14, w4_15, w4_16) else some (w4_13, w4_14, w4_15, w4_16)
theorem big_spec_DrawSendsOf {n : Nat} {t0_0 : List Int} {r : Int × Int × (List UInt8) × (List S_impl_Term)} (h : p_spec_DrawSendsOf n t0_0 = some r) : Big Try.prog τ An (.fn 20 [.one (.c (.sl (t0_0.map rI_u8)))] [] (.one (.ag [.int .i64 r.1, .int .i64 r.2.1, .str r.2.2.1, .sl (r.2.2.2.map rS_impl_Term)])) none [] none) := by
  unfold p_spec_DrawSendsOf at h
  refine Big.of Try.func20 rfl rfl rfl rfl ?_
  have s0 : (DA [.one (.c (.sl (t0_0.map rI_u8)))] []).sl 0 = .one (.c (.sl (t0_0.map rI_u8))) := rfl
  generalize DA [.one (.c (.sl (t0_0.map rI_u8)))] [] = x at s0 ⊢
  refine c_reg (fun x => x.sl 0 = .one (.c (.sl (t0_0.map rI_u8))) ∧ x.sl 2 = .one (.ptr 2 0) ∧ x.ob 2 = some [.int .i64 0, .int .i64 0, .str [], .sl ([].map rS_impl_Term)]) ?_ ?_
  · rw [← put_self s0]
    refine alc (cs := [.int .i64 0, .int .i64 0, .str [], .sl ([].map rS_impl_Term)]) rfl rfl rfl rfl ?_
    refine step_nil ?_
    exact ⟨rfl, rfl, rfl⟩
  clear s0
  intro x hM
  obtain ⟨s0, s2, o2⟩ := hM
  obtain ⟨c8_1, kc8_1, h⟩ := bind_some h
  refine c_reg (fun x => x.sl 2 = .one (.ptr 2 0) ∧ x.sl 3 = .one (.ptr 8 0) ∧ x.ob 2 = some [.int .i64 0, .int .i64 0, .str [], .sl ([].map rS_impl_Term)] ∧ x.ob 8 = some [.sl (c8_1.1.map rI_u8), .int .i64 c8_1.2.1, .int .i64 c8_1.2.2]) ?_ ?_
  · rw [← put_self s0, ← put_self s2, ← setO_self o2]
    refine mv rfl (by conv => lhs; whnf) rfl ?_
    refine cln (big_spec_l1New kc8_1) rfl rfl rfl rfl rfl rfl rfl rfl rfl ?_
    refine asg rfl (by conv => lhs; whnf) rfl ?_
    refine step_nil ?_
    exact ⟨rfl, rfl, rfl, rfl⟩
  clear s0 s2 o2
  intro x hM
  obtain ⟨s2, s3, o2, o8⟩ := hM
  refine c_reg (fun x => x.sl 2 = .one (.ptr 2 0) ∧ x.sl 3 = .one (.ptr 8 0) ∧ x.sl 4 = .one (.ptr 4 0) ∧ x.ob 2 = some [.int .i64 0, .int .i64 0, .str [], .sl ([].map rS_impl_Term)] ∧ x.ob 4 = some [.int .i64 5, .int .i64 0, .str [], .sl ([].map rS_impl_Term)] ∧ x.ob 8 = some [.sl (c8_1.1.map rI_u8), .int .i64 c8_1.2.1, .int .i64 c8_1.2.2]) ?_ ?_
  · rw [← put_self s2, ← put_self s3, ← setO_self o2, ← setO_self o8]
    refine bld (rs := [.int .i64 5, .int .i64 0, .str [], .sl ([].map rS_impl_Term)]) rfl rfl rfl rfl rfl ?_
    refine alc (cs := [.int .i64 0, .int .i64 0, .str [], .sl ([].map rS_impl_Term)]) rfl rfl rfl rfl ?_
    refine sto (cs := [.int .i64 5, .int .i64 0, .str [], .sl ([].map rS_impl_Term)]) rfl rfl (by conv => lhs; whnf) rfl rfl rfl rfl ?_
    refine step_nil ?_
    exact ⟨rfl, rfl, rfl, rfl, rfl, rfl⟩
  clear s2 s3 o2 o8
  intro x hM
  obtain ⟨s2, s3, s4, o2, o4, o8⟩ := hM
  refine c_seq ?_
  obtain ⟨c11_2, kc11_2, h⟩ := bind_some h
  refine c_reg (fun x => x.sl 2 = .one (.ptr 2 0) ∧ x.sl 3 = .one (.ptr 8 0) ∧ x.sl 4 = .one (.ptr 4 0) ∧ x.sl 5 = .one (.c (.int .i64 c11_2.1)) ∧ x.ob 2 = some [.int .i64 0, .int .i64 0, .str [], .sl ([].map rS_impl_Term)] ∧ x.ob 4 = some [.int .i64 5, .int .i64 0, .str [], .sl ([].map rS_impl_Term)] ∧ x.ob 8 = some [.sl (c11_2.2.1.map rI_u8), .int .i64 c11_2.2.2.1, .int .i64 c11_2.2.2.2]) ?_ ?_
  · rw [← put_self s2, ← put_self s3, ← put_self s4, ← setO_self o2, ← setO_self o4, ← setO_self o8]
    refine mv rfl (by conv => lhs; whnf) rfl ?_
    refine cl1 (v' := .one (.c (.int .i64 c11_2.1))) (big_spec_l1Below kc11_2) rfl rfl rfl rfl rfl rfl rfl rfl rfl rfl ?_
    refine asg rfl (by conv => lhs; whnf) rfl ?_
    refine step_nil ?_
    exact ⟨rfl, rfl, rfl, rfl, rfl, rfl, rfl⟩
  clear s2 s3 s4 o2 o4 o8
  intro x hM
  obtain ⟨s2, s3, s4, s5, o2, o4, o8⟩ := hM
  obtain ⟨q41, hq, h⟩ := bind_some h
  refine c_block ?_
  refine Wd.loopN (fun s x => match (generalizing := false) s with | (v5_3, w4_4, w4_5, w4_6, w4_7, w8_8, w8_9, w8_10) => x.sl 2 = .one (.ptr 2 0) ∧ x.sl 3 = .one (.ptr 8 0) ∧ x.sl 4 = .one (.ptr 4 0) ∧ x.sl 5 = .one (.c (.int .i64 v5_3)) ∧ x.ob 2 = some [.int .i64 0, .int .i64 0, .str [], .sl ([].map rS_impl_Term)] ∧ x.ob 4 = some [.int .i64 w4_4, .int .i64 w4_5, .str w4_6, .sl (w4_7.map rS_impl_Term)] ∧ x.ob 8 = some [.sl (w8_8.map rI_u8), .int .i64 w8_9, .int .i64 w8_10]) (fun q e x => match (generalizing := false) q with | (v5_11, v13_12, w4_13, w4_14, w4_15, w4_16, w8_17, w8_18, w8_19) => e = .e 0 ∧ x.sl 2 = .one (.ptr 2 0) ∧ x.sl 3 = .one (.ptr 8 0) ∧ x.sl 4 = .one (.ptr 4 0) ∧ x.sl 5 = .one (.c (.int .i64 v5_11)) ∧ x.sl 13 = .one (.c (.bool v13_12)) ∧ x.ob 2 = some [.int .i64 0, .int .i64 0, .str [], .sl ([].map rS_impl_Term)] ∧ x.ob 4 = some [.int .i64 w4_13, .int .i64 w4_14, .str w4_15, .sl (w4_16.map rS_impl_Term)] ∧ x.ob 8 = some [.sl (w8_17.map rI_u8), .int .i64 w8_18, .int .i64 w8_19]) ?_ hq (⟨s2, s3, s4, s5, o2, o4, o8⟩) ?_
  · clear h hq
    clear s2 s3 s4 s5 o2 o4 o8
    intro st o x hR h
    obtain ⟨v5_3, w4_4, w4_5, w4_6, w4_7, w8_8, w8_9, w8_10⟩ := st
    obtain ⟨s2, s3, s4, s5, o2, o4, o8⟩ := hR
    unfold p_spec_DrawSendsOf_b1 at h
    refine c_seq ?_
    refine c_reg (fun x => x.sl 2 = .one (.ptr 2 0) ∧ x.sl 3 = .one (.ptr 8 0) ∧ x.sl 4 = .one (.ptr 4 0) ∧ x.sl 5 = .one (.c (.int .i64 v5_3)) ∧ x.sl 13 = .one (.c (.bool (decide ((0 : Int) < v5_3)))) ∧ x.ob 2 = some [.int .i64 0, .int .i64 0, .str [], .sl ([].map rS_impl_Term)] ∧ x.ob 4 = some [.int .i64 w4_4, .int .i64 w4_5, .str w4_6, .sl (w4_7.map rS_impl_Term)] ∧ x.ob 8 = some [.sl (w8_8.map rI_u8), .int .i64 w8_9, .int .i64 w8_10]) ?_ ?_
    · rw [← put_self s2, ← put_self s3, ← put_self s4, ← put_self s5, ← setO_self o2, ← setO_self o4, ← setO_self o8]
      refine mv rfl (by conv => lhs; whnf) rfl ?_
      refine rd (.bool (decide ((0 : Int) < v5_3))) rfl rfl rfl rfl rfl ?_
      refine step_nil ?_
      exact ⟨rfl, rfl, rfl, rfl, rfl, rfl, rfl, rfl⟩
    clear s2 s3 s4 s5 o2 o4 o8
    intro x hM
    obtain ⟨s2, s3, s4, s5, s13, o2, o4, o8⟩ := hM
    refine bif_cases h (fun q20 h => ?_) (fun q20 h => ?_)
    · refine c_ct (by rw [← q20]; exact s13) ?_
      refine c_skip ?_
      show vcC _ _ _ _ _ _ _
      obtain ⟨q40, hq, h⟩ := bind_some h
      refine c_mid (fun e x => match (generalizing := false) q40 with | (w4_21, w4_22, w4_23, w4_24, w6_25, w6_26, w6_27, w6_28, w8_29, w8_30, w8_31) => e = .n ∧ x.sl 2 = .one (.ptr 2 0) ∧ x.sl 3 = .one (.ptr 8 0) ∧ x.sl 4 = .one (.ptr 4 0) ∧ x.sl 5 = .one (.c (.int .i64 v5_3)) ∧ x.ob 2 = some [.int .i64 0, .int .i64 0, .str [], .sl ([].map rS_impl_Term)] ∧ x.ob 4 = some [.int .i64 w4_21, .int .i64 w4_22, .str w4_23, .sl (w4_24.map rS_impl_Term)] ∧ x.ob 6 = some [.int .i64 w6_25, .int .i64 w6_26, .str w6_27, .sl (w6_28.map rS_impl_Term)] ∧ x.ob 8 = some [.sl (w8_29.map rI_u8), .int .i64 w8_30, .int .i64 w8_31]) ?_ ?_
      · clear h
        have h := hq
        clear hq
        refine c_block ?_
        obtain ⟨c16_32, kc16_32, h⟩ := bind_some h
        refine c_reg (fun x => x.sl 2 = .one (.ptr 2 0) ∧ x.sl 3 = .one (.ptr 8 0) ∧ x.sl 4 = .one (.ptr 4 0) ∧ x.sl 5 = .one (.c (.int .i64 v5_3)) ∧ x.sl 6 = .one (.ptr 6 0) ∧ x.ob 2 = some [.int .i64 0, .int .i64 0, .str [], .sl ([].map rS_impl_Term)] ∧ x.ob 4 = some [.int .i64 w4_4, .int .i64 w4_5, .str w4_6, .sl (w4_7.map rS_impl_Term)] ∧ x.ob 6 = some [.int .i64 c16_32.1, .int .i64 c16_32.2.1, .str c16_32.2.2.1, .sl (c16_32.2.2.2.map rS_impl_Term)] ∧ x.ob 8 = some [.sl (w8_8.map rI_u8), .int .i64 w8_9, .int .i64 w8_10]) ?_ ?_
        · rw [← put_self s2, ← put_self s3, ← put_self s4, ← put_self s5, ← put_self s13, ← setO_self o2, ← setO_self o4, ← setO_self o8]
          refine cl0 (v' := .one (.ag [.int .i64 c16_32.1, .int .i64 c16_32.2.1, .str c16_32.2.2.1, .sl (c16_32.2.2.2.map rS_impl_Term)])) (big_spec_l13Atom kc16_32) rfl rfl rfl rfl rfl rfl rfl rfl rfl ?_
          refine alc (cs := [.int .i64 0, .int .i64 0, .str [], .sl ([].map rS_impl_Term)]) rfl rfl rfl rfl ?_
          refine sto (cs := [.int .i64 c16_32.1, .int .i64 c16_32.2.1, .str c16_32.2.2.1, .sl (c16_32.2.2.2.map rS_impl_Term)]) rfl rfl (by conv => lhs; whnf) rfl rfl rfl rfl ?_
          refine step_nil ?_
          exact ⟨rfl, rfl, rfl, rfl, rfl, rfl, rfl, rfl, rfl⟩
        clear s2 s3 s4 s5 s13 o2 o4 o8
        intro x hM
        obtain ⟨s2, s3, s4, s5, s6, o2, o4, o6, o8⟩ := hM
        refine c_seq ?_
        obtain ⟨c18_33, kc18_33, h⟩ := bind_some h
        refine c_reg (fun x => x.sl 2 = .one (.ptr 2 0) ∧ x.sl 3 = .one (.ptr 8 0) ∧ x.sl 4 = .one (.ptr 4 0) ∧ x.sl 5 = .one (.c (.int .i64 v5_3)) ∧ x.sl 6 = .one (.ptr 6 0) ∧ x.sl 18 = .one (.c (.bool c18_33.1)) ∧ x.ob 2 = some [.int .i64 0, .int .i64 0, .str [], .sl ([].map rS_impl_Term)] ∧ x.ob 4 = some [.int .i64 w4_4, .int .i64 w4_5, .str w4_6, .sl (w4_7.map rS_impl_Term)] ∧ x.ob 6 = some [.int .i64 c16_32.1, .int .i64 c16_32.2.1, .str c16_32.2.2.1, .sl (c16_32.2.2.2.map rS_impl_Term)] ∧ x.ob 8 = some [.sl (c18_33.2.1.map rI_u8), .int .i64 c18_33.2.2.1, .int .i64 c18_33.2.2.2]) ?_ ?_
        · rw [← put_self s2, ← put_self s3, ← put_self s4, ← put_self s5, ← put_self s6, ← setO_self o2, ← setO_self o4, ← setO_self o6, ← setO_self o8]
          refine mv rfl (by conv => lhs; whnf) rfl ?_
          refine cl1 (v' := .one (.c (.bool c18_33.1))) (big_spec_l1Once kc18_33) rfl rfl rfl rfl rfl rfl rfl rfl rfl rfl ?_
          refine step_nil ?_
          exact ⟨rfl, rfl, rfl, rfl, rfl, rfl, rfl, rfl, rfl, rfl⟩
        clear s2 s3 s4 s5 s6 o2 o4 o6 o8
        intro x hM
        obtain ⟨s2, s3, s4, s5, s6, s18, o2, o4, o6, o8⟩ := hM
        refine bif_cases h (fun q34 h => ?_) (fun q34 h => ?_)
        · refine c_ct (by rw [← q34]; exact s18) ?_
          obtain ⟨c20_35, kc20_35, h⟩ := bind_some h
          refine c_regl (fun x => x.sl 2 = .one (.ptr 2 0) ∧ x.sl 3 = .one (.ptr 8 0) ∧ x.sl 4 = .one (.ptr 4 0) ∧ x.sl 5 = .one (.c (.int .i64 v5_3)) ∧ x.sl 6 = .one (.ptr 6 0) ∧ x.ob 2 = some [.int .i64 0, .int .i64 0, .str [], .sl ([].map rS_impl_Term)] ∧ x.ob 4 = some [.int .i64 w4_4, .int .i64 w4_5, .str w4_6, .sl (w4_7.map rS_impl_Term)] ∧ x.ob 6 = some [.int .i64 c20_35.1, .int .i64 c20_35.2.1, .str c20_35.2.2.1, .sl (c20_35.2.2.2.1.map rS_impl_Term)] ∧ x.ob 8 = some [.sl (c20_35.2.2.2.2.1.map rI_u8), .int .i64 c20_35.2.2.2.2.2.1, .int .i64 c20_35.2.2.2.2.2.2]) ?_ ?_
          · rw [← put_self s2, ← put_self s3, ← put_self s4, ← put_self s5, ← put_self s6, ← put_self s18, ← setO_self o2, ← setO_self o4, ← setO_self o6, ← setO_self o8]
            refine mv rfl (by conv => lhs; whnf) rfl ?_
            refine cl1 (v' := .one (.ag [.int .i64 c20_35.1, .int .i64 c20_35.2.1, .str c20_35.2.2.1, .sl (c20_35.2.2.2.1.map rS_impl_Term)])) (big_spec_l2Draw kc20_35) rfl rfl rfl rfl rfl rfl rfl rfl rfl rfl ?_
            refine sto (cs := [.int .i64 c20_35.1, .int .i64 c20_35.2.1, .str c20_35.2.2.1, .sl (c20_35.2.2.2.1.map rS_impl_Term)]) rfl rfl (by conv => lhs; whnf) rfl rfl rfl rfl ?_
            refine step_nil ?_
            exact ⟨rfl, rfl, rfl, rfl, rfl, rfl, rfl, rfl, rfl⟩
          clear s2 s3 s4 s5 s6 s18 o2 o4 o6 o8
          intro x hM
          obtain ⟨s2, s3, s4, s5, s6, o2, o4, o6, o8⟩ := hM
          show vcC _ _ _ _ _ _ _
          obtain ⟨c25_36, kc25_36, h⟩ := bind_some h
          obtain ⟨v29_37, kv29_37, h⟩ := bind_some h
          refine c_regl (fun x => x.sl 2 = .one (.ptr 2 0) ∧ x.sl 3 = .one (.ptr 8 0) ∧ x.sl 4 = .one (.ptr 4 0) ∧ x.sl 5 = .one (.c (.int .i64 v5_3)) ∧ x.ob 2 = some [.int .i64 0, .int .i64 0, .str [], .sl ([].map rS_impl_Term)] ∧ x.ob 4 = some [.int .i64 w4_4, .int .i64 w4_5, .str w4_6, .sl (v29_37.map rS_impl_Term)] ∧ x.ob 6 = some [.int .i64 c20_35.1, .int .i64 c20_35.2.1, .str c20_35.2.2.1, .sl (c20_35.2.2.2.1.map rS_impl_Term)] ∧ x.ob 8 = some [.sl (c25_36.2.2.2.2.1.map rI_u8), .int .i64 c25_36.2.2.2.2.2.1, .int .i64 c25_36.2.2.2.2.2.2]) ?_ ?_
          · rw [← put_self s2, ← put_self s3, ← put_self s4, ← put_self s5, ← put_self s6, ← setO_self o2, ← setO_self o4, ← setO_self o6, ← setO_self o8]
            refine fld (u := .one (.ptr 4 3)) rfl rfl rfl (by conv => lhs; whnf) rfl rfl ?_
            refine ldo (w := .one (.c (.sl (w4_7.map rS_impl_Term)))) rfl rfl rfl (by conv => lhs; whnf) rfl rfl rfl ?_
            refine ldo (w := .one (.ag [.int .i64 c20_35.1, .int .i64 c20_35.2.1, .str c20_35.2.2.1, .sl (c20_35.2.2.2.1.map rS_impl_Term)])) rfl rfl rfl (by conv => lhs; whnf) rfl rfl rfl ?_
            refine mv rfl (by conv => lhs; whnf) rfl ?_
            refine cl1 (v' := .one (.ag [.int .i64 c25_36.1, .int .i64 c25_36.2.1, .str c25_36.2.2.1, .sl (c25_36.2.2.2.1.map rS_impl_Term)])) (big_spec_l2Draw kc25_36) rfl rfl rfl rfl rfl rfl rfl rfl rfl rfl ?_
            refine lit (L := ([S_impl_Term.mk c20_35.1 c20_35.2.1 c20_35.2.2.1 c20_35.2.2.2.1, S_impl_Term.mk c25_36.1 c25_36.2.1 c25_36.2.2.1 c25_36.2.2.2.1] : List S_impl_Term)) (f := rS_impl_Term) rfl rfl rfl rfl (by simp only [List.map, rS_impl_Term_mk]) rfl rfl ?_
            refine bld (rs := [.int .i64 4, .int .i64 0, .str [], .sl ([S_impl_Term.mk c20_35.1 c20_35.2.1 c20_35.2.2.1 c20_35.2.2.2.1, S_impl_Term.mk c25_36.1 c25_36.2.1 c25_36.2.2.1 c25_36.2.2.2.1].map rS_impl_Term)]) rfl rfl rfl rfl rfl ?_
            refine lit (L := ([S_impl_Term.mk (4 : Int) (0 : Int) ([] : List UInt8) ([S_impl_Term.mk c20_35.1 c20_35.2.1 c20_35.2.2.1 c20_35.2.2.2.1, S_impl_Term.mk c25_36.1 c25_36.2.1 c25_36.2.2.1 c25_36.2.2.2.1] : List S_impl_Term)] : List S_impl_Term)) (f := rS_impl_Term) rfl rfl rfl rfl (by simp only [List.map, rS_impl_Term_mk]) rfl rfl ?_
            refine apd (f := rS_impl_Term) kv29_37 rfl rfl rfl rfl (by conv => lhs; whnf) rfl rfl rfl (fun a => by rw [rS_impl_Term_eq]; rfl) (fun a => by rw [rS_impl_Term_eq]; rfl) rfl ?_
            refine fld (u := .one (.ptr 4 3)) rfl rfl rfl (by conv => lhs; whnf) rfl rfl ?_
            refine sto (cs := [.int .i64 w4_4, .int .i64 w4_5, .str w4_6, .sl (v29_37.map rS_impl_Term)]) rfl rfl (by conv => lhs; whnf) rfl rfl rfl rfl ?_
            refine step_nil ?_
            exact ⟨rfl, rfl, rfl, rfl, rfl, rfl, rfl, rfl⟩
          clear s2 s3 s4 s5 s6 o2 o4 o6 o8
          intro x hM
          obtain ⟨s2, s3, s4, s5, o2, o4, o6, o8⟩ := hM
          cases h
          show _ ∧ _
          exact ⟨rfl, s2, s3, s4, s5, o2, o4, o6, o8⟩
        · refine c_cf (by rw [← q34]; exact s18) ?_
          refine c_skip ?_
          show vcC _ _ _ _ _ _ _
          obtain ⟨c25_38, kc25_38, h⟩ := bind_some h
          obtain ⟨v29_39, kv29_39, h⟩ := bind_some h
          refine c_regl (fun x => x.sl 2 = .one (.ptr 2 0) ∧ x.sl 3 = .one (.ptr 8 0) ∧ x.sl 4 = .one (.ptr 4 0) ∧ x.sl 5 = .one (.c (.int .i64 v5_3)) ∧ x.ob 2 = some [.int .i64 0, .int .i64 0, .str [], .sl ([].map rS_impl_Term)] ∧ x.ob 4 = some [.int .i64 w4_4, .int .i64 w4_5, .str w4_6, .sl (v29_39.map rS_impl_Term)] ∧ x.ob 6 = some [.int .i64 c16_32.1, .int .i64 c16_32.2.1, .str c16_32.2.2.1, .sl (c16_32.2.2.2.map rS_impl_Term)] ∧ x.ob 8 = some [.sl (c25_38.2.2.2.2.1.map rI_u8), .int .i64 c25_38.2.2.2.2.2.1, .int .i64 c25_38.2.2.2.2.2.2]) ?_ ?_
          · rw [← put_self s2, ← put_self s3, ← put_self s4, ← put_self s5, ← put_self s6, ← put_self s18, ← setO_self o2, ← setO_self o4, ← setO_self o6, ← setO_self o8]
            refine fld (u := .one (.ptr 4 3)) rfl rfl rfl (by conv => lhs; whnf) rfl rfl ?_
            refine ldo (w := .one (.c (.sl (w4_7.map rS_impl_Term)))) rfl rfl rfl (by conv => lhs; whnf) rfl rfl rfl ?_
            refine ldo (w := .one (.ag [.int .i64 c16_32.1, .int .i64 c16_32.2.1, .str c16_32.2.2.1, .sl (c16_32.2.2.2.map rS_impl_Term)])) rfl rfl rfl (by conv => lhs; whnf) rfl rfl rfl ?_
            refine mv rfl (by conv => lhs; whnf) rfl ?_
            refine cl1 (v' := .one (.ag [.int .i64 c25_38.1, .int .i64 c25_38.2.1, .str c25_38.2.2.1, .sl (c25_38.2.2.2.1.map rS_impl_Term)])) (big_spec_l2Draw kc25_38) rfl rfl rfl rfl rfl rfl rfl rfl rfl rfl ?_
            refine lit (L := ([S_impl_Term.mk c16_32.1 c16_32.2.1 c16_32.2.2.1 c16_32.2.2.2, S_impl_Term.mk c25_38.1 c25_38.2.1 c25_38.2.2.1 c25_38.2.2.2.1] : List S_impl_Term)) (f := rS_impl_Term) rfl rfl rfl rfl (by simp only [List.map, rS_impl_Term_mk]) rfl rfl ?_
            refine bld (rs := [.int .i64 4, .int .i64 0, .str [], .sl ([S_impl_Term.mk c16_32.1 c16_32.2.1 c16_32.2.2.1 c16_32.2.2.2, S_impl_Term.mk c25_38.1 c25_38.2.1 c25_38.2.2.1 c25_38.2.2.2.1].map rS_impl_Term)]) rfl rfl rfl rfl rfl ?_
            refine lit (L := ([S_impl_Term.mk (4 : Int) (0 : Int) ([] : List UInt8) ([S_impl_Term.mk c16_32.1 c16_32.2.1 c16_32.2.2.1 c16_32.2.2.2, S_impl_Term.mk c25_38.1 c25_38.2.1 c25_38.2.2.1 c25_38.2.2.2.1] : List S_impl_Term)] : List S_impl_Term)) (f := rS_impl_Term) rfl rfl rfl rfl (by simp only [List.map, rS_impl_Term_mk]) rfl rfl ?_
            refine apd (f := rS_impl_Term) kv29_39 rfl rfl rfl rfl (by conv => lhs; whnf) rfl rfl rfl (fun a => by rw [rS_impl_Term_eq]; rfl) (fun a => by rw [rS_impl_Term_eq]; rfl) rfl ?_
            refine fld (u := .one (.ptr 4 3)) rfl rfl rfl (by conv => lhs; whnf) rfl rfl ?_
            refine sto (cs := [.int .i64 w4_4, .int .i64 w4_5, .str w4_6, .sl (v29_39.map rS_impl_Term)]) rfl rfl (by conv => lhs; whnf) rfl rfl rfl rfl ?_
            refine step_nil ?_
            exact ⟨rfl, rfl, rfl, rfl, rfl, rfl, rfl, rfl⟩
          clear s2 s3 s4 s5 s6 s18 o2 o4 o6 o8
          intro x hM
          obtain ⟨s2, s3, s4, s5, o2, o4, o6, o8⟩ := hM
          cases h
          show _ ∧ _
          exact ⟨rfl, s2, s3, s4, s5, o2, o4, o6, o8⟩
      clear hq
      clear s2 s3 s4 s5 s13 o2 o4 o8
      intro e x hM
      obtain ⟨w4_21, w4_22, w4_23, w4_24, w6_25, w6_26, w6_27, w6_28, w8_29, w8_30, w8_31⟩ := q40
      obtain ⟨rfl, s2, s3, s4, s5, o2, o4, o6, o8⟩ := hM
      show vcC _ _ _ _ _ _ _
      refine c_regl (fun x => x.sl 2 = .one (.ptr 2 0) ∧ x.sl 3 = .one (.ptr 8 0) ∧ x.sl 4 = .one (.ptr 4 0) ∧ x.sl 5 = .one (.c (.int .i64 (IntKind.wrap .i64 (v5_3 - (1 : Int))))) ∧ x.ob 2 = some [.int .i64 0, .int .i64 0, .str [], .sl ([].map rS_impl_Term)] ∧ x.ob 4 = some [.int .i64 w4_21, .int .i64 w4_22, .str w4_23, .sl (w4_24.map rS_impl_Term)] ∧ x.ob 6 = some [.int .i64 w6_25, .int .i64 w6_26, .str w6_27, .sl (w6_28.map rS_impl_Term)] ∧ x.ob 8 = some [.sl (w8_29.map rI_u8), .int .i64 w8_30, .int .i64 w8_31]) ?_ ?_
      · rw [← put_self s2, ← put_self s3, ← put_self s4, ← put_self s5, ← setO_self o2, ← setO_self o4, ← setO_self o6, ← setO_self o8]
        refine mv rfl (by conv => lhs; whnf) rfl ?_
        refine rd (.int .i64 (IntKind.wrap .i64 (v5_3 - (1 : Int)))) rfl rfl rfl rfl rfl ?_
        refine asg rfl (by conv => lhs; whnf) rfl ?_
        refine step_nil ?_
        exact ⟨rfl, rfl, rfl, rfl, rfl, rfl, rfl, rfl⟩
      clear s2 s3 s4 s5 o2 o4 o6 o8
      intro x hM
      obtain ⟨s2, s3, s4, s5, o2, o4, o6, o8⟩ := hM
      cases h
      show _ ∧ _
      exact ⟨rfl, s2, s3, s4, s5, o2, o4, o8⟩
    · refine c_cf (by rw [← q20]; exact s13) ?_
      refine c_exit ?_
      cases h
      show _ ∧ _
      exact ⟨nofun, rfl, s2, s3, s4, s5, s13, o2, o4, o8⟩
  clear hq
  clear s2 s3 s4 s5 o2 o4 o8
  intro e x hM
  obtain ⟨v5_11, v13_12, w4_13, w4_14, w4_15, w4_16, w8_17, w8_18, w8_19⟩ := q41
  obtain ⟨rfl, s2, s3, s4, s5, s13, o2, o4, o8⟩ := hM
  show vcC _ _ _ _ _ _ _
  refine c_seq ?_
  obtain ⟨c32_42, kc32_42, h⟩ := bind_some h
  refine c_reg (fun x => x.sl 2 = .one (.ptr 2 0) ∧ x.sl 3 = .one (.ptr 8 0) ∧ x.sl 4 = .one (.ptr 4 0) ∧ x.sl 32 = .one (.c (.bool c32_42.1)) ∧ x.ob 2 = some [.int .i64 0, .int .i64 0, .str [], .sl ([].map rS_impl_Term)] ∧ x.ob 4 = some [.int .i64 w4_13, .int .i64 w4_14, .str w4_15, .sl (w4_16.map rS_impl_Term)] ∧ x.ob 8 = some [.sl (c32_42.2.1.map rI_u8), .int .i64 c32_42.2.2.1, .int .i64 c32_42.2.2.2]) ?_ ?_
  · rw [← put_self s2, ← put_self s3, ← put_self s4, ← put_self s5, ← put_self s13, ← setO_self o2, ← setO_self o4, ← setO_self o8]
    refine mv rfl (by conv => lhs; whnf) rfl ?_
    refine cl1 (v' := .one (.c (.bool c32_42.1))) (big_spec_l1Once kc32_42) rfl rfl rfl rfl rfl rfl rfl rfl rfl rfl ?_
    refine step_nil ?_
    exact ⟨rfl, rfl, rfl, rfl, rfl, rfl, rfl⟩
  clear s2 s3 s4 s5 s13 o2 o4 o8
  intro x hM
  obtain ⟨s2, s3, s4, s32, o2, o4, o8⟩ := hM
  refine bif_cases h (fun q43 h => ?_) (fun q43 h => ?_)
  · refine c_ct (by rw [← q43]; exact s32) ?_
    obtain ⟨c36_44, kc36_44, h⟩ := bind_some h
    obtain ⟨v38_45, kv38_45, h⟩ := bind_some h
    refine c_regl (fun x => x.sl 2 = .one (.ptr 2 0) ∧ x.sl 3 = .one (.ptr 8 0) ∧ x.sl 4 = .one (.ptr 4 0) ∧ x.ob 2 = some [.int .i64 0, .int .i64 0, .str [], .sl ([].map rS_impl_Term)] ∧ x.ob 4 = some [.int .i64 w4_13, .int .i64 w4_14, .str w4_15, .sl (v38_45.map rS_impl_Term)] ∧ x.ob 8 = some [.sl (c36_44.2.2.2.2.1.map rI_u8), .int .i64 c36_44.2.2.2.2.2.1, .int .i64 c36_44.2.2.2.2.2.2]) ?_ ?_
    · rw [← put_self s2, ← put_self s3, ← put_self s4, ← put_self s32, ← setO_self o2, ← setO_self o4, ← setO_self o8]
      refine fld (u := .one (.ptr 4 3)) rfl rfl rfl (by conv => lhs; whnf) rfl rfl ?_
      refine ldo (w := .one (.c (.sl (w4_16.map rS_impl_Term)))) rfl rfl rfl (by conv => lhs; whnf) rfl rfl rfl ?_
      refine mv rfl (by conv => lhs; whnf) rfl ?_
      refine cl1 (v' := .one (.ag [.int .i64 c36_44.1, .int .i64 c36_44.2.1, .str c36_44.2.2.1, .sl (c36_44.2.2.2.1.map rS_impl_Term)])) (big_spec_l2Draw kc36_44) rfl rfl rfl rfl rfl rfl rfl rfl rfl rfl ?_
      refine lit (L := ([S_impl_Term.mk c36_44.1 c36_44.2.1 c36_44.2.2.1 c36_44.2.2.2.1] : List S_impl_Term)) (f := rS_impl_Term) rfl rfl rfl rfl (by simp only [List.map, rS_impl_Term_mk]) rfl rfl ?_
      refine apd (f := rS_impl_Term) kv38_45 rfl rfl rfl rfl (by conv => lhs; whnf) rfl rfl rfl (fun a => by rw [rS_impl_Term_eq]; rfl) (fun a => by rw [rS_impl_Term_eq]; rfl) rfl ?_
      refine fld (u := .one (.ptr 4 3)) rfl rfl rfl (by conv => lhs; whnf) rfl rfl ?_
      refine sto (cs := [.int .i64 w4_13, .int .i64 w4_14, .str w4_15, .sl (v38_45.map rS_impl_Term)]) rfl rfl (by conv => lhs; whnf) rfl rfl rfl rfl ?_
      refine step_nil ?_
      exact ⟨rfl, rfl, rfl, rfl, rfl, rfl⟩
    clear s2 s3 s4 s32 o2 o4 o8
    intro x hM
    obtain ⟨s2, s3, s4, o2, o4, o8⟩ := hM
    show vcC _ _ _ _ _ _ _
    refine c_seq ?_
    obtain ⟨c41_46, kc41_46, h⟩ := bind_some h
    refine c_reg (fun x => x.sl 2 = .one (.ptr 2 0) ∧ x.sl 4 = .one (.ptr 4 0) ∧ x.sl 41 = .one (.c (.bool c41_46.1)) ∧ x.ob 2 = some [.int .i64 0, .int .i64 0, .str [], .sl ([].map rS_impl_Term)] ∧ x.ob 4 = some [.int .i64 w4_13, .int .i64 w4_14, .str w4_15, .sl (v38_45.map rS_impl_Term)] ∧ x.ob 8 = some [.sl (c41_46.2.1.map rI_u8), .int .i64 c41_46.2.2.1, .int .i64 c41_46.2.2.2]) ?_ ?_
    · rw [← put_self s2, ← put_self s3, ← put_self s4, ← setO_self o2, ← setO_self o4, ← setO_self o8]
      refine mv rfl (by conv => lhs; whnf) rfl ?_
      refine cl1 (v' := .one (.c (.bool c41_46.1))) (big_spec_l1Once kc41_46) rfl rfl rfl rfl rfl rfl rfl rfl rfl rfl ?_
      refine step_nil ?_
      exact ⟨rfl, rfl, rfl, rfl, rfl, rfl⟩
    clear s2 s3 s4 o2 o4 o8
    intro x hM
    obtain ⟨s2, s4, s41, o2, o4, o8⟩ := hM
    refine bif_cases h (fun q47 h => ?_) (fun q47 h => ?_)
    · refine c_ct (by rw [← q47]; exact s41) ?_
      refine c_regl (fun x => x.sl 2 = .one (.ptr 2 0) ∧ x.sl 4 = .one (.ptr 4 0) ∧ x.ob 2 = some [.int .i64 0, .int .i64 0, .str [], .sl ([].map rS_impl_Term)] ∧ x.ob 4 = some [.int .i64 4, .int .i64 w4_14, .str w4_15, .sl (v38_45.map rS_impl_Term)] ∧ x.ob 8 = some [.sl (c41_46.2.1.map rI_u8), .int .i64 c41_46.2.2.1, .int .i64 c41_46.2.2.2]) ?_ ?_
      · rw [← put_self s2, ← put_self s4, ← put_self s41, ← setO_self o2, ← setO_self o4, ← setO_self o8]
        refine fld (u := .one (.ptr 4 0)) rfl rfl rfl (by conv => lhs; whnf) rfl rfl ?_
        refine sto (cs := [.int .i64 4, .int .i64 w4_14, .str w4_15, .sl (v38_45.map rS_impl_Term)]) rfl rfl (by conv => lhs; whnf) rfl rfl rfl rfl ?_
        refine step_nil ?_
        exact ⟨rfl, rfl, rfl, rfl, rfl⟩
      clear s2 s4 s41 o2 o4 o8
      intro x hM
      obtain ⟨s2, s4, o2, o4, o8⟩ := hM
      show vcC _ _ _ _ _ _ _
      refine c_reg (fun x => x.sl 2 = .one (.ptr 2 0) ∧ x.ob 2 = some [.int .i64 4, .int .i64 w4_14, .str w4_15, .sl (v38_45.map rS_impl_Term)] ∧ x.ob 4 = some [.int .i64 4, .int .i64 w4_14, .str w4_15, .sl (v38_45.map rS_impl_Term)] ∧ x.ob 8 = some [.sl (c41_46.2.1.map rI_u8), .int .i64 c41_46.2.2.1, .int .i64 c41_46.2.2.2]) ?_ ?_
      · rw [← put_self s2, ← put_self s4, ← setO_self o2, ← setO_self o4, ← setO_self o8]
        refine ldo (w := .one (.ag [.int .i64 4, .int .i64 w4_14, .str w4_15, .sl (v38_45.map rS_impl_Term)])) rfl rfl rfl (by conv => lhs; whnf) rfl rfl rfl ?_
        refine sto (cs := [.int .i64 4, .int .i64 w4_14, .str w4_15, .sl (v38_45.map rS_impl_Term)]) rfl rfl (by conv => lhs; whnf) rfl rfl rfl rfl ?_
        refine step_nil ?_
        exact ⟨rfl, rfl, rfl, rfl⟩
      clear s2 s4 o2 o4 o8
      intro x hM
      obtain ⟨s2, o2, o4, o8⟩ := hM
      refine c_ret ?_
      cases h
      show _ ∧ _
      rw [← put_self s2, ← setO_self o2]
      exact ⟨.inr rfl, _, rfl, rfl, rfl, rfl⟩
    · refine c_cf (by rw [← q47]; exact s41) ?_
      refine c_skip ?_
      show vcC _ _ _ _ _ _ _
      refine c_reg (fun x => x.sl 2 = .one (.ptr 2 0) ∧ x.ob 2 = some [.int .i64 w4_13, .int .i64 w4_14, .str w4_15, .sl (v38_45.map rS_impl_Term)] ∧ x.ob 4 = some [.int .i64 w4_13, .int .i64 w4_14, .str w4_15, .sl (v38_45.map rS_impl_Term)] ∧ x.ob 8 = some [.sl (c41_46.2.1.map rI_u8), .int .i64 c41_46.2.2.1, .int .i64 c41_46.2.2.2]) ?_ ?_
      · rw [← put_self s2, ← put_self s4, ← put_self s41, ← setO_self o2, ← setO_self o4, ← setO_self o8]
        refine ldo (w := .one (.ag [.int .i64 w4_13, .int .i64 w4_14, .str w4_15, .sl (v38_45.map rS_impl_Term)])) rfl rfl rfl (by conv => lhs; whnf) rfl rfl rfl ?_
        refine sto (cs := [.int .i64 w4_13, .int .i64 w4_14, .str w4_15, .sl (v38_45.map rS_impl_Term)]) rfl rfl (by conv => lhs; whnf) rfl rfl rfl rfl ?_
        refine step_nil ?_
        exact ⟨rfl, rfl, rfl, rfl⟩
      clear s2 s4 s41 o2 o4 o8
      intro x hM
      obtain ⟨s2, o2, o4, o8⟩ := hM
      refine c_ret ?_
      cases h
      show _ ∧ _
      rw [← put_self s2, ← setO_self o2]
      exact ⟨.inr rfl, _, rfl, rfl, rfl, rfl⟩
  · refine c_cf (by rw [← q43]; exact s32) ?_
    refine c_skip ?_
    show vcC _ _ _ _ _ _ _
    refine c_seq ?_
    obtain ⟨c41_48, kc41_48, h⟩ := bind_some h
    refine c_reg (fun x => x.sl 2 = .one (.ptr 2 0) ∧ x.sl 4 = .one (.ptr 4 0) ∧ x.sl 41 = .one (.c (.bool c41_48.1)) ∧ x.ob 2 = some [.int .i64 0, .int .i64 0, .str [], .sl ([].map rS_impl_Term)] ∧ x.ob 4 = some [.int .i64 w4_13, .int .i64 w4_14, .str w4_15, .sl (w4_16.map rS_impl_Term)] ∧ x.ob 8 = some [.sl (c41_48.2.1.map rI_u8), .int .i64 c41_48.2.2.1, .int .i64 c41_48.2.2.2]) ?_ ?_
    · rw [← put_self s2, ← put_self s3, ← put_self s4, ← put_self s32, ← setO_self o2, ← setO_self o4, ← setO_self o8]
      refine mv rfl (by conv => lhs; whnf) rfl ?_
      refine cl1 (v' := .one (.c (.bool c41_48.1))) (big_spec_l1Once kc41_48) rfl rfl rfl rfl rfl rfl rfl rfl rfl rfl ?_
      refine step_nil ?_
      exact ⟨rfl, rfl, rfl, rfl, rfl, rfl⟩
    clear s2 s3 s4 s32 o2 o4 o8
    intro x hM
    obtain ⟨s2, s4, s41, o2, o4, o8⟩ := hM
    refine bif_cases h (fun q49 h => ?_) (fun q49 h => ?_)
    · refine c_ct (by rw [← q49]; exact s41) ?_
      refine c_regl (fun x => x.sl 2 = .one (.ptr 2 0) ∧ x.sl 4 = .one (.ptr 4 0) ∧ x.ob 2 = some [.int .i64 0, .int .i64 0, .str [], .sl ([].map rS_impl_Term)] ∧ x.ob 4 = some [.int .i64 4, .int .i64 w4_14, .str w4_15, .sl (w4_16.map rS_impl_Term)] ∧ x.ob 8 = some [.sl (c41_48.2.1.map rI_u8), .int .i64 c41_48.2.2.1, .int .i64 c41_48.2.2.2]) ?_ ?_
      · rw [← put_self s2, ← put_self s4, ← put_self s41, ← setO_self o2, ← setO_self o4, ← setO_self o8]
        refine fld (u := .one (.ptr 4 0)) rfl rfl rfl (by conv => lhs; whnf) rfl rfl ?_
        refine sto (cs := [.int .i64 4, .int .i64 w4_14, .str w4_15, .sl (w4_16.map rS_impl_Term)]) rfl rfl (by conv => lhs; whnf) rfl rfl rfl rfl ?_
        refine step_nil ?_
        exact ⟨rfl, rfl, rfl, rfl, rfl⟩
      clear s2 s4 s41 o2 o4 o8
      intro x hM
      obtain ⟨s2, s4, o2, o4, o8⟩ := hM
      show vcC _ _ _ _ _ _ _
      refine c_reg (fun x => x.sl 2 = .one (.ptr 2 0) ∧ x.ob 2 = some [.int .i64 4, .int .i64 w4_14, .str w4_15, .sl (w4_16.map rS_impl_Term)] ∧ x.ob 4 = some [.int .i64 4, .int .i64 w4_14, .str w4_15, .sl (w4_16.map rS_impl_Term)] ∧ x.ob 8 = some [.sl (c41_48.2.1.map rI_u8), .int .i64 c41_48.2.2.1, .int .i64 c41_48.2.2.2]) ?_ ?_
      · rw [← put_self s2, ← put_self s4, ← setO_self o2, ← setO_self o4, ← setO_self o8]
        refine ldo (w := .one (.ag [.int .i64 4, .int .i64 w4_14, .str w4_15, .sl (w4_16.map rS_impl_Term)])) rfl rfl rfl (by conv => lhs; whnf) rfl rfl rfl ?_
        refine sto (cs := [.int .i64 4, .int .i64 w4_14, .str w4_15, .sl (w4_16.map rS_impl_Term)]) rfl rfl (by conv => lhs; whnf) rfl rfl rfl rfl ?_
        refine step_nil ?_
        exact ⟨rfl, rfl, rfl, rfl⟩
      clear s2 s4 o2 o4 o8
      intro x hM
      obtain ⟨s2, o2, o4, o8⟩ := hM
      refine c_ret ?_
      cases h
      show _ ∧ _
      rw [← put_self s2, ← setO_self o2]
      exact ⟨.inr rfl, _, rfl, rfl, rfl, rfl⟩
    · refine c_cf (by rw [← q49]; exact s41) ?_
      refine c_skip ?_
      show vcC _ _ _ _ _ _ _
      refine c_reg (fun x => x.sl 2 = .one (.ptr 2 0) ∧ x.ob 2 = some [.int .i64 w4_13, .int .i64 w4_14, .str w4_15, .sl (w4_16.map rS_impl_Term)] ∧ x.ob 4 = some [.int .i64 w4_13, .int .i64 w4_14, .str w4_15, .sl (w4_16.map rS_impl_Term)] ∧ x.ob 8 = some [.sl (c41_48.2.1.map rI_u8), .int .i64 c41_48.2.2.1, .int .i64 c41_48.2.2.2]) ?_ ?_
      · rw [← put_self s2, ← put_self s4, ← put_self s41, ← setO_self o2, ← setO_self o4, ← setO_self o8]
        refine ldo (w := .one (.ag [.int .i64 w4_13, .int .i64 w4_14, .str w4_15, .sl (w4_16.map rS_impl_Term)])) rfl rfl rfl (by conv => lhs; whnf) rfl rfl rfl ?_
        refine sto (cs := [.int .i64 w4_13, .int .i64 w4_14, .str w4_15, .sl (w4_16.map rS_impl_Term)]) rfl rfl (by conv => lhs; whnf) rfl rfl rfl rfl ?_
        refine step_nil ?_
        exact ⟨rfl, rfl, rfl, rfl⟩
      clear s2 s4 s41 o2 o4 o8
      intro x hM
      obtain ⟨s2, o2, o4, o8⟩ := hM
      refine c_ret ?_
      cases h
      show _ ∧ _
      rw [← put_self s2, ← setO_self o2]
      exact ⟨.inr rfl, _, rfl, rfl, rfl, rfl⟩
def p_impl_isAddress (n : Nat) (t0_0 : Int) (t0_1 : Int) (t0_2 : List UInt8) (t0_3 : List S_impl_Term) : Option (Bool) :=
  (bif decide (t0_0 = (2 : Int)) then some true else some (decide (t0_0 = (3 : Int)))).bind fun v2_1 => some v2_1
theorem big_impl_isAddress {n : Nat} {t0_0 : Int} {t0_1 : Int} {t0_2 : List UInt8} {t0_3 : List S_impl_Term} {r : Bool} (h : p_impl_isAddress n t0_0 t0_1 t0_2 t0_3 = some r) : Big Try.prog τ An (.fn 64 [.one (.ag [.int .i64 t0_0, .int .i64 t0_1, .str t0_2, .sl (t0_3.map rS_impl_Term)])] [] (.one (.c (.bool r))) none [] none) := by
  unfold p_impl_isAddress at h
  refine Big.of Try.func64 rfl rfl rfl rfl ?_
  have s0 : (DA [.one (.ag [.int .i64 t0_0, .int .i64 t0_1, .str t0_2, .sl (t0_3.map rS_impl_Term)])] []).sl 0 = .one (.ag [.int .i64 t0_0, .int .i64 t0_1, .str t0_2, .sl (t0_3.map rS_impl_Term)]) := rfl
  generalize DA [.one (.ag [.int .i64 t0_0, .int .i64 t0_1, .str t0_2, .sl (t0_3.map rS_impl_Term)])] [] = x at s0 ⊢
  refine c_reg (fun x => x.sl 1 = .one (.ptr 1 0) ∧ x.ob 1 = some [.int .i64 t0_0, .int .i64 t0_1, .str t0_2, .sl (t0_3.map rS_impl_Term)]) ?_ ?_
  · rw [← put_self s0]
    refine bx (xs := [.int .i64 t0_0, .int .i64 t0_1, .str t0_2, .sl (t0_3.map rS_impl_Term)]) rfl (by conv => lhs; whnf) rfl rfl ?_
    refine asg rfl (by conv => lhs; whnf) rfl ?_
    refine step_nil ?_
    exact ⟨rfl, rfl⟩
  clear s0
  intro x hM
  obtain ⟨s1, o1⟩ := hM
  obtain ⟨v2_1, hr, h⟩ := bind_some h
  refine c_reg (fun x => x.sl 2 = .one (.c (.bool v2_1)) ∧ x.ob 1 = some [.int .i64 t0_0, .int .i64 t0_1, .str t0_2, .sl (t0_3.map rS_impl_Term)]) ?_ ?_
  · clear h
    rw [← put_self s1, ← setO_self o1]
    refine fld (u := .one (.ptr 1 0)) rfl rfl rfl (by conv => lhs; whnf) rfl rfl ?_
    refine ldo (w := .one (.c (.int .i64 t0_0))) rfl rfl rfl (by conv => lhs; whnf) rfl rfl rfl ?_
    refine rd (.bool (decide (t0_0 = (2 : Int)))) rfl rfl rfl rfl rfl ?_
    refine mv rfl (by conv => lhs; whnf) rfl ?_
    refine bif_cases hr (fun q2 hr => ?_) (fun q2 hr => ?_)
    · refine sk (g_ofc rfl (by conv => lhs; whnf) q2 rfl) ?_
      refine sk (g_ofc rfl (by conv => lhs; whnf) q2 rfl) ?_
      refine sk (g_ofc rfl (by conv => lhs; whnf) q2 rfl) ?_
      refine pkc rfl (by conv => lhs; whnf) q2 (by conv => lhs; whnf) rfl ?_
      refine asg rfl (by conv => lhs; whnf) rfl ?_
      refine step_nil ?_
      cases hr
      exact ⟨rfl, rfl⟩
    · refine fld (u := .one (.ptr 1 0)) (g_ofc rfl (by conv => lhs; whnf) q2 rfl) rfl rfl (by conv => lhs; whnf) rfl rfl ?_
      refine ldo (w := .one (.c (.int .i64 t0_0))) (g_ofc rfl (by conv => lhs; whnf) q2 rfl) rfl rfl (by conv => lhs; whnf) rfl rfl rfl ?_
      refine rd (.bool (decide (t0_0 = (3 : Int)))) (g_ofc rfl (by conv => lhs; whnf) q2 rfl) rfl rfl rfl rfl ?_
      refine pkc rfl (by conv => lhs; whnf) q2 (by conv => lhs; whnf) rfl ?_
      refine asg rfl (by conv => lhs; whnf) rfl ?_
      refine step_nil ?_
      cases hr
      exact ⟨rfl, rfl⟩
  clear hr
  clear s1 o1
  intro x hM
  obtain ⟨s2, o1⟩ := hM
  refine c_ret ?_
  cases h
  show _ ∧ _
  rw [← put_self s2]
  exact ⟨.inr rfl, _, rfl, rfl, rfl, rfl⟩
def p_impl_copyTerms_b1 (n : Nat) (r_impl_copyTerm : Int → Int → (List UInt8) → (List S_impl_Term) → Option (Int × Int × (List UInt8) × (List S_impl_Term))) (t0_0 : List S_impl_Term) : ((List S_impl_Term) × Int) → Option (((List S_impl_Term) × Int) ⊕ (((List S_impl_Term) × Int × Bool)))
  | (v3_1, v8_2) => bif decide (v8_2 < (t0_0.length : Int)) then (ix t0_0 v8_2).bind fun e10_7 => (r_impl_copyTerm e10_7.f0 e10_7.f1 e10_7.f2 e10_7.f3).bind fun c14_8 => (app2 56 v3_1 ([S_impl_Term.mk c14_8.1 c14_8.2.1 c14_8.2.2.1 c14_8.2.2.2] : List S_impl_Term)).bind fun v16_9 => some (.inl (v16_9, (IntKind.wrap .i64 (v8_2 + (1 : Int))))) else some (.inr (v3_1, v8_2, (decide (v8_2 < (t0_0.length : Int)))))
def s_impl_copyTerms (n : Nat) (r_impl_copyTerm : Int → Int → (List UInt8) → (List S_impl_Term) → Option (Int × Int × (List UInt8) × (List S_impl_Term))) (r_impl_copyTerms : (List S_impl_Term) → Option ((List S_impl_Term))) (t0_0 : List S_impl_Term) : Option ((List S_impl_Term)) :=
  (loopN (p_impl_copyTerms_b1 n r_impl_copyTerm t0_0) n (([] : List S_impl_Term), (0 : Int))).bind fun (v3_3, v8_4, v9_5) => some v3_3
theorem step_impl_copyTerms {n : Nat} {r_impl_copyTerm : Int → Int → (List UInt8) → (List S_impl_Term) → Option (Int × Int × (List UInt8) × (List S_impl_Term))} (ih_impl_copyTerm : ∀ {t0_0 : Int} {t0_1 : Int} {t0_2 : List UInt8} {t0_3 : List S_impl_Term} {r : Int × Int × (List UInt8) × (List S_impl_Term)}, r_impl_copyTerm t0_0 t0_1 t0_2 t0_3 = some r → Big Try.prog τ An (.fn 65 [.one (.ag [.int .i64 t0_0, .int .i64 t0_1, .str t0_2, .sl (t0_3.map rS_impl_Term)])] [] (.one (.ag [.int .i64 r.1, .int .i64 r.2.1, .str r.2.2.1, .sl (r.2.2.2.map rS_impl_Term)])) none [] none)) {r_impl_copyTerms : (List S_impl_Term) → Option ((List S_impl_Term))} (ih_impl_copyTerms : ∀ {t0_0 : List S_impl_Term} {r : (List S_impl_Term)}, r_impl_copyTerms t0_0 = some r → Big Try.prog τ An (.fn 106 [.one (.c (.sl (t0_0.map rS_impl_Term)))] [] (.one (.c (.sl (r.map rS_impl_Term)))) none [] none)) {t0_0 : List S_impl_Term} {r : (List S_impl_Term)} (h : s_impl_copyTerms n r_impl_copyTerm r_impl_copyTerms t0_0 = some r) : Big Try.prog τ An (.fn 106 [.one (.c (.sl (t0_0.map rS_impl_Term)))] [] (.one (.c (.sl (r.map rS_impl_Term)))) none [] none) := by
  unfold s_impl_copyTerms at h
  refine Big.of Try.func106 rfl rfl rfl rfl ?_
  have s0 : (DA [.one (.c (.sl (t0_0.map rS_impl_Term)))] []).sl 0 = .one (.c (.sl (t0_0.map rS_impl_Term))) := rfl
  generalize DA [.one (.c (.sl (t0_0.map rS_impl_Term)))] [] = x at s0 ⊢
  refine c_reg (fun x => x.sl 0 = .one (.c (.sl (t0_0.map rS_impl_Term)))) ?_ ?_
  · rw [← put_self s0]
    refine asg rfl (by conv => lhs; whnf) rfl ?_
    refine step_nil ?_
    exact rfl
  clear s0
  intro x s0
  refine c_reg (fun x => x.sl 0 = .one (.c (.sl (t0_0.map rS_impl_Term))) ∧ x.sl 3 = .one (.c (.sl ([].map rS_impl_Term)))) ?_ ?_
  · rw [← put_self s0]
    refine asg rfl (by conv => lhs; whnf) rfl ?_
    refine step_nil ?_
    exact ⟨rfl, rfl⟩
  clear s0
  intro x hM
  obtain ⟨s0, s3⟩ := hM
  refine c_seq ?_
  refine c_reg (fun x => x.sl 3 = .one (.c (.sl ([].map rS_impl_Term))) ∧ x.sl 6 = .one (.c (.sl (t0_0.map rS_impl_Term))) ∧ x.sl 7 = .one (.c (.int .i64 (t0_0.length : Int))) ∧ x.sl 8 = .one (.c (.int .i64 0))) ?_ ?_
  · rw [← put_self s0, ← put_self s3]
    refine mv rfl (by conv => lhs; whnf) rfl ?_
    refine ln rfl rfl (by conv => lhs; whnf) rfl ?_
    refine mv rfl (by conv => lhs; whnf) rfl ?_
    refine step_nil ?_
    exact ⟨rfl, rfl, rfl, rfl⟩
  clear s0 s3
  intro x hM
  obtain ⟨s3, s6, s7, s8⟩ := hM
  obtain ⟨q10, hq, h⟩ := bind_some h
  refine c_block ?_
  refine Wd.loopN (fun s x => match (generalizing := false) s with | (v3_1, v8_2) => x.sl 3 = .one (.c (.sl (v3_1.map rS_impl_Term))) ∧ x.sl 6 = .one (.c (.sl (t0_0.map rS_impl_Term))) ∧ x.sl 7 = .one (.c (.int .i64 (t0_0.length : Int))) ∧ x.sl 8 = .one (.c (.int .i64 v8_2))) (fun q e x => match (generalizing := false) q with | (v3_3, v8_4, v9_5) => e = .e 0 ∧ x.sl 3 = .one (.c (.sl (v3_3.map rS_impl_Term))) ∧ x.sl 6 = .one (.c (.sl (t0_0.map rS_impl_Term))) ∧ x.sl 7 = .one (.c (.int .i64 (t0_0.length : Int))) ∧ x.sl 8 = .one (.c (.int .i64 v8_4)) ∧ x.sl 9 = .one (.c (.bool v9_5))) ?_ hq (⟨s3, s6, s7, s8⟩) ?_
  · clear h hq
    clear s3 s6 s7 s8
    intro st o x hR h
    obtain ⟨v3_1, v8_2⟩ := st
    obtain ⟨s3, s6, s7, s8⟩ := hR
    unfold p_impl_copyTerms_b1 at h
    refine c_reg (fun x => x.sl 3 = .one (.c (.sl (v3_1.map rS_impl_Term))) ∧ x.sl 6 = .one (.c (.sl (t0_0.map rS_impl_Term))) ∧ x.sl 7 = .one (.c (.int .i64 (t0_0.length : Int))) ∧ x.sl 8 = .one (.c (.int .i64 v8_2)) ∧ x.sl 9 = .one (.c (.bool (decide (v8_2 < (t0_0.length : Int)))))) ?_ ?_
    · rw [← put_self s3, ← put_self s6, ← put_self s7, ← put_self s8]
      refine rd (.bool (decide (v8_2 < (t0_0.length : Int)))) rfl rfl rfl rfl rfl ?_
      refine step_nil ?_
      exact ⟨rfl, rfl, rfl, rfl, rfl⟩
    clear s3 s6 s7 s8
    intro x hM
    obtain ⟨s3, s6, s7, s8, s9⟩ := hM
    refine c_seq ?_
    refine bif_cases h (fun q6 h => ?_) (fun q6 h => ?_)
    · refine c_ct (by rw [← q6]; exact s9) ?_
      refine c_skip ?_
      show vcC _ _ _ _ _ _ _
      refine c_seq ?_
      refine c_block ?_
      obtain ⟨e10_7, ke10_7, h⟩ := bind_some h
      refine c_reg (fun x => x.sl 3 = .one (.c (.sl (v3_1.map rS_impl_Term))) ∧ x.sl 5 = .one (.ptr 5 0) ∧ x.sl 6 = .one (.c (.sl (t0_0.map rS_impl_Term))) ∧ x.sl 7 = .one (.c (.int .i64 (t0_0.length : Int))) ∧ x.sl 8 = .one (.c (.int .i64 v8_2)) ∧ x.ob 5 = some [.int .i64 e10_7.f0, .int .i64 e10_7.f1, .str e10_7.f2, .sl (e10_7.f3.map rS_impl_Term)]) ?_ ?_
      · rw [← put_self s3, ← put_self s6, ← put_self s7, ← put_self s8, ← put_self s9]
        refine ixa (f := rS_impl_Term) (row := [.int .i64 e10_7.f0, .int .i64 e10_7.f1, .str e10_7.f2, .sl (e10_7.f3.map rS_impl_Term)]) ke10_7 rfl rfl rfl (by conv => lhs; whnf) (by conv => lhs; whnf) (rS_impl_Term_eq _) rfl rfl ?_
        refine ldc (w := .one (.ag [.int .i64 e10_7.f0, .int .i64 e10_7.f1, .str e10_7.f2, .sl (e10_7.f3.map rS_impl_Term)])) rfl rfl (by conv => lhs; whnf) rfl rfl ?_
        refine alc (cs := [.int .i64 0, .int .i64 0, .str [], .sl ([].map rS_impl_Term)]) rfl rfl rfl rfl ?_
        refine sto (cs := [.int .i64 e10_7.f0, .int .i64 e10_7.f1, .str e10_7.f2, .sl (e10_7.f3.map rS_impl_Term)]) rfl rfl (by conv => lhs; whnf) rfl rfl rfl rfl ?_
        refine step_nil ?_
        exact ⟨rfl, rfl, rfl, rfl, rfl, rfl⟩
      clear s3 s6 s7 s8 s9
      intro x hM
      obtain ⟨s3, s5, s6, s7, s8, o5⟩ := hM
      obtain ⟨c14_8, kc14_8, h⟩ := bind_some h
      obtain ⟨v16_9, kv16_9, h⟩ := bind_some h
      refine c_regl (fun x => x.sl 3 = .one (.c (.sl (v16_9.map rS_impl_Term))) ∧ x.sl 6 = .one (.c (.sl (t0_0.map rS_impl_Term))) ∧ x.sl 7 = .one (.c (.int .i64 (t0_0.length : Int))) ∧ x.sl 8 = .one (.c (.int .i64 v8_2)) ∧ x.ob 5 = some [.int .i64 e10_7.f0, .int .i64 e10_7.f1, .str e10_7.f2, .sl (e10_7.f3.map rS_impl_Term)]) ?_ ?_
      · rw [← put_self s3, ← put_self s5, ← put_self s6, ← put_self s7, ← put_self s8, ← setO_self o5]
        refine mv rfl (by conv => lhs; whnf) rfl ?_
        refine ldo (w := .one (.ag [.int .i64 e10_7.f0, .int .i64 e10_7.f1, .str e10_7.f2, .sl (e10_7.f3.map rS_impl_Term)])) rfl rfl rfl (by conv => lhs; whnf) rfl rfl rfl ?_
        refine cl0 (v' := .one (.ag [.int .i64 c14_8.1, .int .i64 c14_8.2.1, .str c14_8.2.2.1, .sl (c14_8.2.2.2.map rS_impl_Term)])) (ih_impl_copyTerm kc14_8) rfl rfl rfl rfl rfl rfl rfl rfl rfl ?_
        refine lit (L := ([S_impl_Term.mk c14_8.1 c14_8.2.1 c14_8.2.2.1 c14_8.2.2.2] : List S_impl_Term)) (f := rS_impl_Term) rfl rfl rfl rfl (by simp only [List.map, rS_impl_Term_mk]) rfl rfl ?_
        refine apd (f := rS_impl_Term) kv16_9 rfl rfl rfl rfl (by conv => lhs; whnf) rfl rfl rfl (fun a => by rw [rS_impl_Term_eq]; rfl) (fun a => by rw [rS_impl_Term_eq]; rfl) rfl ?_
        refine asg rfl (by conv => lhs; whnf) rfl ?_
        refine step_nil ?_
        exact ⟨rfl, rfl, rfl, rfl, rfl⟩
      clear s3 s5 s6 s7 s8 o5
      intro x hM
      obtain ⟨s3, s6, s7, s8, o5⟩ := hM
      show vcC _ _ _ _ _ _ _
      refine c_regl (fun x => x.sl 3 = .one (.c (.sl (v16_9.map rS_impl_Term))) ∧ x.sl 6 = .one (.c (.sl (t0_0.map rS_impl_Term))) ∧ x.sl 7 = .one (.c (.int .i64 (t0_0.length : Int))) ∧ x.sl 8 = .one (.c (.int .i64 (IntKind.wrap .i64 (v8_2 + (1 : Int))))) ∧ x.ob 5 = some [.int .i64 e10_7.f0, .int .i64 e10_7.f1, .str e10_7.f2, .sl (e10_7.f3.map rS_impl_Term)]) ?_ ?_
      · rw [← put_self s3, ← put_self s6, ← put_self s7, ← put_self s8, ← setO_self o5]
        refine rd (.int .i64 (IntKind.wrap .i64 (v8_2 + (1 : Int)))) rfl rfl rfl rfl rfl ?_
        refine mv rfl (by conv => lhs; whnf) rfl ?_
        refine step_nil ?_
        exact ⟨rfl, rfl, rfl, rfl, rfl⟩
      clear s3 s6 s7 s8 o5
      intro x hM
      obtain ⟨s3, s6, s7, s8, o5⟩ := hM
      cases h
      show _ ∧ _
      exact ⟨rfl, s3, s6, s7, s8⟩
    · refine c_cf (by rw [← q6]; exact s9) ?_
      refine c_exit ?_
      cases h
      show _ ∧ _
      exact ⟨nofun, rfl, s3, s6, s7, s8, s9⟩
  clear hq
  clear s3 s6 s7 s8
  intro e x hM
  obtain ⟨v3_3, v8_4, v9_5⟩ := q10
  obtain ⟨rfl, s3, s6, s7, s8, s9⟩ := hM
  show vcC _ _ _ _ _ _ _
  refine c_reg (fun x => x.sl 2 = .one (.c (.sl (v3_3.map rS_impl_Term)))) ?_ ?_
  · rw [← put_self s3, ← put_self s6, ← put_self s7, ← put_self s8, ← put_self s9]
    refine mv rfl (by conv => lhs; whnf) rfl ?_
    refine asg rfl (by conv => lhs; whnf) rfl ?_
    refine step_nil ?_
    exact rfl
  clear s3 s6 s7 s8 s9
  intro x s2
  refine c_ret ?_
  cases h
  show _ ∧ _
  rw [← put_self s2]
  exact ⟨.inr rfl, _, rfl, rfl, rfl, rfl⟩
def s_impl_copyTerm (n : Nat) (r_impl_copyTerm : Int → Int → (List UInt8) → (List S_impl_Term) → Option (Int × Int × (List UInt8) × (List S_impl_Term))) (r_impl_copyTerms : (List S_impl_Term) → Option ((List S_impl_Term))) (t0_0 : Int) (t0_1 : Int) (t0_2 : List UInt8) (t0_3 : List S_impl_Term) : Option (Int × Int × (List UInt8) × (List S_impl_Term)) :=
  (r_impl_copyTerms t0_3).bind fun c5_1 => some (t0_0, t0_1, t0_2, c5_1)
theorem step_impl_copyTerm {n : Nat} {r_impl_copyTerm : Int → Int → (List UInt8) → (List S_impl_Term) → Option (Int × Int × (List UInt8) × (List S_impl_Term))} (ih_impl_copyTerm : ∀ {t0_0 : Int} {t0_1 : Int} {t0_2 : List UInt8} {t0_3 : List S_impl_Term} {r : Int × Int × (List UInt8) × (List S_impl_Term)}, r_impl_copyTerm t0_0 t0_1 t0_2 t0_3 = some r → Big Try.prog τ An (.fn 65 [.one (.ag [.int .i64 t0_0, .int .i64 t0_1, .str t0_2, .sl (t0_3.map rS_impl_Term)])] [] (.one (.ag [.int .i64 r.1, .int .i64 r.2.1, .str r.2.2.1, .sl (r.2.2.2.map rS_impl_Term)])) none [] none)) {r_impl_copyTerms : (List S_impl_Term) → Option ((List S_impl_Term))} (ih_impl_copyTerms : ∀ {t0_0 : List S_impl_Term} {r : (List S_impl_Term)}, r_impl_copyTerms t0_0 = some r → Big Try.prog τ An (.fn 106 [.one (.c (.sl (t0_0.map rS_impl_Term)))] [] (.one (.c (.sl (r.map rS_impl_Term)))) none [] none)) {t0_0 : Int} {t0_1 : Int} {t0_2 : List UInt8} {t0_3 : List S_impl_Term} {r : Int × Int × (List UInt8) × (List S_impl_Term)} (h : s_impl_copyTerm n r_impl_copyTerm r_impl_copyTerms t0_0 t0_1 t0_2 t0_3 = some r) : Big Try.prog τ An (.fn 65 [.one (.ag [.int .i64 t0_0, .int .i64 t0_1, .str t0_2, .sl (t0_3.map rS_impl_Term)])] [] (.one (.ag [.int .i64 r.1, .int .i64 r.2.1, .str r.2.2.1, .sl (r.2.2.2.map rS_impl_Term)])) none [] none) := by
  unfold s_impl_copyTerm at h
  refine Big.of Try.func65 rfl rfl rfl rfl ?_
  have s0 : (DA [.one (.ag [.int .i64 t0_0, .int .i64 t0_1, .str t0_2, .sl (t0_3.map rS_impl_Term)])] []).sl 0 = .one (.ag [.int .i64 t0_0, .int .i64 t0_1, .str t0_2, .sl (t0_3.map rS_impl_Term)]) := rfl
  generalize DA [.one (.ag [.int .i64 t0_0, .int .i64 t0_1, .str t0_2, .sl (t0_3.map rS_impl_Term)])] [] = x at s0 ⊢
  refine c_reg (fun x => x.sl 1 = .one (.ptr 1 0) ∧ x.sl 2 = .one (.ptr 2 0) ∧ x.ob 1 = some [.int .i64 t0_0, .int .i64 t0_1, .str t0_2, .sl (t0_3.map rS_impl_Term)] ∧ x.ob 2 = some [.int .i64 0, .int .i64 0, .str [], .sl ([].map rS_impl_Term)]) ?_ ?_
  · rw [← put_self s0]
    refine bx (xs := [.int .i64 t0_0, .int .i64 t0_1, .str t0_2, .sl (t0_3.map rS_impl_Term)]) rfl (by conv => lhs; whnf) rfl rfl ?_
    refine alc (cs := [.int .i64 0, .int .i64 0, .str [], .sl ([].map rS_impl_Term)]) rfl rfl rfl rfl ?_
    refine step_nil ?_
    exact ⟨rfl, rfl, rfl, rfl⟩
  clear s0
  intro x hM
  obtain ⟨s1, s2, o1, o2⟩ := hM
  obtain ⟨c5_1, kc5_1, h⟩ := bind_some h
  refine c_reg (fun x => x.sl 1 = .one (.ptr 1 0) ∧ x.sl 2 = .one (.ptr 2 0) ∧ x.ob 1 = some [.int .i64 t0_0, .int .i64 t0_1, .str t0_2, .sl (c5_1.map rS_impl_Term)] ∧ x.ob 2 = some [.int .i64 0, .int .i64 0, .str [], .sl ([].map rS_impl_Term)]) ?_ ?_
  · rw [← put_self s1, ← put_self s2, ← setO_self o1, ← setO_self o2]
    refine fld (u := .one (.ptr 1 3)) rfl rfl rfl (by conv => lhs; whnf) rfl rfl ?_
    refine ldo (w := .one (.c (.sl (t0_3.map rS_impl_Term)))) rfl rfl rfl (by conv => lhs; whnf) rfl rfl rfl ?_
    refine cl0 (v' := .one (.c (.sl (c5_1.map rS_impl_Term)))) (ih_impl_copyTerms kc5_1) rfl rfl rfl rfl rfl rfl rfl rfl rfl ?_
    refine fld (u := .one (.ptr 1 3)) rfl rfl rfl (by conv => lhs; whnf) rfl rfl ?_
    refine sto (cs := [.int .i64 t0_0, .int .i64 t0_1, .str t0_2, .sl (c5_1.map rS_impl_Term)]) rfl rfl (by conv => lhs; whnf) rfl rfl rfl rfl ?_
    refine step_nil ?_
    exact ⟨rfl, rfl, rfl, rfl⟩
  clear s1 s2 o1 o2
  intro x hM
  obtain ⟨s1, s2, o1, o2⟩ := hM
  refine c_reg (fun x => x.sl 2 = .one (.ptr 2 0) ∧ x.ob 1 = some [.int .i64 t0_0, .int .i64 t0_1, .str t0_2, .sl (c5_1.map rS_impl_Term)] ∧ x.ob 2 = some [.int .i64 t0_0, .int .i64 t0_1, .str t0_2, .sl (c5_1.map rS_impl_Term)]) ?_ ?_
  · rw [← put_self s1, ← put_self s2, ← setO_self o1, ← setO_self o2]
    refine ldo (w := .one (.ag [.int .i64 t0_0, .int .i64 t0_1, .str t0_2, .sl (c5_1.map rS_impl_Term)])) rfl rfl rfl (by conv => lhs; whnf) rfl rfl rfl ?_
    refine sto (cs := [.int .i64 t0_0, .int .i64 t0_1, .str t0_2, .sl (c5_1.map rS_impl_Term)]) rfl rfl (by conv => lhs; whnf) rfl rfl rfl rfl ?_
    refine step_nil ?_
    exact ⟨rfl, rfl, rfl⟩
  clear s1 s2 o1 o2
  intro x hM
  obtain ⟨s2, o1, o2⟩ := hM
  refine c_ret ?_
  cases h
  show _ ∧ _
  rw [← put_self s2, ← setO_self o2]
  exact ⟨.inr rfl, _, rfl, rfl, rfl, rfl⟩
def q_impl_copyTerm : Nat → (Int → Int → (List UInt8) → (List S_impl_Term) → Option (Int × Int × (List UInt8) × (List S_impl_Term))) × ((List S_impl_Term) → Option ((List S_impl_Term)))
  | 0 => ((fun _ _ _ _ => none), (fun _ => none))
  | n + 1 => (s_impl_copyTerm n ((q_impl_copyTerm n).1) ((q_impl_copyTerm n).2), s_impl_copyTerms n ((q_impl_copyTerm n).1) ((q_impl_copyTerm n).2))
def p_impl_copyTerm (n : Nat) : Int → Int → (List UInt8) → (List S_impl_Term) → Option (Int × Int × (List UInt8) × (List S_impl_Term)) := (q_impl_copyTerm n).1
def p_impl_copyTerms (n : Nat) : (List S_impl_Term) → Option ((List S_impl_Term)) := (q_impl_copyTerm n).2
theorem bigs_impl_copyTerm : ∀ n : Nat, (∀ {t0_0 : Int} {t0_1 : Int} {t0_2 : List UInt8} {t0_3 : List S_impl_Term} {r : Int × Int × (List UInt8) × (List S_impl_Term)}, p_impl_copyTerm n t0_0 t0_1 t0_2 t0_3 = some r → Big Try.prog τ An (.fn 65 [.one (.ag [.int .i64 t0_0, .int .i64 t0_1, .str t0_2, .sl (t0_3.map rS_impl_Term)])] [] (.one (.ag [.int .i64 r.1, .int .i64 r.2.1, .str r.2.2.1, .sl (r.2.2.2.map rS_impl_Term)])) none [] none)) ∧ (∀ {t0_0 : List S_impl_Term} {r : (List S_impl_Term)}, p_impl_copyTerms n t0_0 = some r → Big Try.prog τ An (.fn 106 [.one (.c (.sl (t0_0.map rS_impl_Term)))] [] (.one (.c (.sl (r.map rS_impl_Term)))) none [] none)) := by
  intro n
  induction n with
  | zero => exact ⟨(fun h => nomatch h), (fun h => nomatch h)⟩
  | succ n ih => exact ⟨(fun h => step_impl_copyTerm (n := n) (ih.1) (ih.2) h), (fun h => step_impl_copyTerms (n := n) (ih.1) (ih.2) h)⟩
theorem big_impl_copyTerm {n : Nat} {t0_0 : Int} {t0_1 : Int} {t0_2 : List UInt8} {t0_3 : List S_impl_Term} {r : Int × Int × (List UInt8) × (List S_impl_Term)} (h : p_impl_copyTerm n t0_0 t0_1 t0_2 t0_3 = some r) : Big Try.prog τ An (.fn 65 [.one (.ag [.int .i64 t0_0, .int .i64 t0_1, .str t0_2, .sl (t0_3.map rS_impl_Term)])] [] (.one (.ag [.int .i64 r.1, .int .i64 r.2.1, .str r.2.2.1, .sl (r.2.2.2.map rS_impl_Term)])) none [] none) := (bigs_impl_copyTerm n).1 h
theorem big_impl_copyTerms {n : Nat} {t0_0 : List S_impl_Term} {r : (List S_impl_Term)} (h : p_impl_copyTerms n t0_0 = some r) : Big Try.prog τ An (.fn 106 [.one (.c (.sl (t0_0.map rS_impl_Term)))] [] (.one (.c (.sl (r.map rS_impl_Term)))) none [] none) := (bigs_impl_copyTerm n).2 h
theorem p_impl_copyTerm_succ (n : Nat) : p_impl_copyTerm (n + 1) = s_impl_copyTerm n (p_impl_copyTerm n) (p_impl_copyTerms n) := rfl
theorem p_impl_copyTerms_succ (n : Nat) : p_impl_copyTerms (n + 1) = s_impl_copyTerms n (p_impl_copyTerm n) (p_impl_copyTerms n) := rfl
def p_impl_SendsOf_b1 (n : Nat) (t0_3 : List S_impl_Term) : ((List S_impl_Send) × Int) → Option (((List S_impl_Send) × Int) ⊕ (((List S_impl_Send) × Bool) ⊕ ((List S_impl_Send) × Int × Bool)))
  | (v4_2, v13_3) => bif decide (v13_3 < (t0_3.length : Int)) then (ix t0_3 v13_3).bind fun e15_10 => (bif !decide (e15_10.f0 = (4 : Int)) then some true else bif !decide ((e15_10.f3.length : Int) = (2 : Int)) then some true else (ix e15_10.f3 (0 : Int)).bind fun e29_14 => (p_impl_isAddress n e29_14.f0 e29_14.f1 e29_14.f2 e29_14.f3).bind fun c31_15 => some (!c31_15)).bind fun v33_11 => bif v33_11 then some (.inr (.inl (([] : List S_impl_Send), false))) else (ix e15_10.f3 (0 : Int)).bind fun e37_17 => (p_impl_copyTerm n e37_17.f0 e37_17.f1 e37_17.f2 e37_17.f3).bind fun c39_18 => (ix e15_10.f3 (1 : Int)).bind fun e42_19 => (p_impl_copyTerm n e42_19.f0 e42_19.f1 e42_19.f2 e42_19.f3).bind fun c44_20 => (app2 112 v4_2 ([S_impl_Send.mk c39_18.1 c39_18.2.1 c39_18.2.2.1 c39_18.2.2.2 c44_20.1 c44_20.2.1 c44_20.2.2.1 c44_20.2.2.2] : List S_impl_Send)).bind fun v47_21 => some (.inl (v47_21, (IntKind.wrap .i64 (v13_3 + (1 : Int))))) else some (.inr (.inr (v4_2, v13_3, (decide (v13_3 < (t0_3.length : Int))))))
def p_impl_SendsOf (n : Nat) (t0_0 : Int) (t0_1 : Int) (t0_2 : List UInt8) (t0_3 : List S_impl_Term) : Option ((List S_impl_Send) × Bool) :=
  bif !decide (t0_0 = (5 : Int)) then some (([] : List S_impl_Send), false) else (loopN (p_impl_SendsOf_b1 n t0_3) n (([] : List S_impl_Send), (0 : Int))).bind fun q => (match q with | .inl (v2_4, v3_5) => some (v2_4, v3_5) | .inr (v4_6, v13_7, v14_8) => some (v4_6, true))
theorem big_impl_SendsOf {n : Nat} {t0_0 : Int} {t0_1 : Int} {t0_2 : List UInt8} {t0_3 : List S_impl_Term} {r : (List S_impl_Send) × Bool} (h : p_impl_SendsOf n t0_0 t0_1 t0_2 t0_3 = some r) : Big Try.prog τ An (.fn 21 [.one (.ag [.int .i64 t0_0, .int .i64 t0_1, .str t0_2, .sl (t0_3.map rS_impl_Term)])] [] (.tup [.c (.sl (r.1.map rS_impl_Send)), .c (.bool r.2)]) none [] none) := by
  unfold p_impl_SendsOf at h
  refine Big.of Try.func21 rfl rfl rfl rfl ?_
  have s0 : (DA [.one (.ag [.int .i64 t0_0, .int .i64 t0_1, .str t0_2, .sl (t0_3.map rS_impl_Term)])] []).sl 0 = .one (.ag [.int .i64 t0_0, .int .i64 t0_1, .str t0_2, .sl (t0_3.map rS_impl_Term)]) := rfl
  generalize DA [.one (.ag [.int .i64 t0_0, .int .i64 t0_1, .str t0_2, .sl (t0_3.map rS_impl_Term)])] [] = x at s0 ⊢
  refine c_reg (fun x => x.sl 1 = .one (.ptr 1 0) ∧ x.ob 1 = some [.int .i64 t0_0, .int .i64 t0_1, .str t0_2, .sl (t0_3.map rS_impl_Term)]) ?_ ?_
  · rw [← put_self s0]
    refine bx (xs := [.int .i64 t0_0, .int .i64 t0_1, .str t0_2, .sl (t0_3.map rS_impl_Term)]) rfl (by conv => lhs; whnf) rfl rfl ?_
    refine asg rfl (by conv => lhs; whnf) rfl ?_
    refine asg rfl (by conv => lhs; whnf) rfl ?_
    refine step_nil ?_
    exact ⟨rfl, rfl⟩
  clear s0
  intro x hM
  obtain ⟨s1, o1⟩ := hM
  refine c_seq ?_
  refine c_reg (fun x => x.sl 1 = .one (.ptr 1 0) ∧ x.sl 9 = .one (.c (.bool (!decide (t0_0 = (5 : Int))))) ∧ x.ob 1 = some [.int .i64 t0_0, .int .i64 t0_1, .str t0_2, .sl (t0_3.map rS_impl_Term)]) ?_ ?_
  · rw [← put_self s1, ← setO_self o1]
    refine fld (u := .one (.ptr 1 0)) rfl rfl rfl (by conv => lhs; whnf) rfl rfl ?_
    refine ldo (w := .one (.c (.int .i64 t0_0))) rfl rfl rfl (by conv => lhs; whnf) rfl rfl rfl ?_
    refine rd (.bool (!decide (t0_0 = (5 : Int)))) rfl rfl rfl rfl rfl ?_
    refine step_nil ?_
    exact ⟨rfl, rfl, rfl⟩
  clear s1 o1
  intro x hM
  obtain ⟨s1, s9, o1⟩ := hM
  refine bif_cases h (fun q1 h => ?_) (fun q1 h => ?_)
  · refine c_ct (by rw [← q1]; exact s9) ?_
    refine c_reg (fun x => x.sl 2 = .one (.c (.sl ([].map rS_impl_Send))) ∧ x.sl 3 = .one (.c (.bool false)) ∧ x.ob 1 = some [.int .i64 t0_0, .int .i64 t0_1, .str t0_2, .sl (t0_3.map rS_impl_Term)]) ?_ ?_
    · rw [← put_self s1, ← put_self s9, ← setO_self o1]
      refine asg rfl (by conv => lhs; whnf) rfl ?_
      refine asg rfl (by conv => lhs; whnf) rfl ?_
      refine step_nil ?_
      exact ⟨rfl, rfl, rfl⟩
    clear s1 s9 o1
    intro x hM
    obtain ⟨s2, s3, o1⟩ := hM
    refine c_ret ?_
    cases h
    show _ ∧ _
    rw [← put_self s2, ← put_self s3]
    exact ⟨.inr rfl, _, rfl, rfl, rfl, rfl⟩
  · refine c_cf (by rw [← q1]; exact s9) ?_
    refine c_skip ?_
    show vcC _ _ _ _ _ _ _
    refine c_reg (fun x => x.sl 1 = .one (.ptr 1 0) ∧ x.sl 4 = .one (.c (.sl ([].map rS_impl_Send))) ∧ x.ob 1 = some [.int .i64 t0_0, .int .i64 t0_1, .str t0_2, .sl (t0_3.map rS_impl_Term)]) ?_ ?_
    · rw [← put_self s1, ← put_self s9, ← setO_self o1]
      refine asg rfl (by conv => lhs; whnf) rfl ?_
      refine step_nil ?_
      exact ⟨rfl, rfl, rfl⟩
    clear s1 s9 o1
    intro x hM
    obtain ⟨s1, s4, o1⟩ := hM
    refine c_seq ?_
    refine c_reg (fun x => x.sl 4 = .one (.c (.sl ([].map rS_impl_Send))) ∧ x.sl 11 = .one (.c (.sl (t0_3.map rS_impl_Term))) ∧ x.sl 12 = .one (.c (.int .i64 (t0_3.length : Int))) ∧ x.sl 13 = .one (.c (.int .i64 0)) ∧ x.ob 1 = some [.int .i64 t0_0, .int .i64 t0_1, .str t0_2, .sl (t0_3.map rS_impl_Term)]) ?_ ?_
    · rw [← put_self s1, ← put_self s4, ← setO_self o1]
      refine fld (u := .one (.ptr 1 3)) rfl rfl rfl (by conv => lhs; whnf) rfl rfl ?_
      refine ldo (w := .one (.c (.sl (t0_3.map rS_impl_Term)))) rfl rfl rfl (by conv => lhs; whnf) rfl rfl rfl ?_
      refine ln rfl rfl (by conv => lhs; whnf) rfl ?_
      refine mv rfl (by conv => lhs; whnf) rfl ?_
      refine step_nil ?_
      exact ⟨rfl, rfl, rfl, rfl, rfl⟩
    clear s1 s4 o1
    intro x hM
    obtain ⟨s4, s11, s12, s13, o1⟩ := hM
    obtain ⟨q22, hq, h⟩ := bind_some h
    refine c_block ?_
    refine Wd.loopN (fun s x => match (generalizing := false) s with | (v4_2, v13_3) => x.sl 4 = .one (.c (.sl (v4_2.map rS_impl_Send))) ∧ x.sl 11 = .one (.c (.sl (t0_3.map rS_impl_Term))) ∧ x.sl 12 = .one (.c (.int .i64 (t0_3.length : Int))) ∧ x.sl 13 = .one (.c (.int .i64 v13_3)) ∧ x.ob 1 = some [.int .i64 t0_0, .int .i64 t0_1, .str t0_2, .sl (t0_3.map rS_impl_Term)]) (fun q e x => match (generalizing := false) q with | .inl (v2_4, v3_5) => e = .r ∧ x.sl 2 = .one (.c (.sl (v2_4.map rS_impl_Send))) ∧ x.sl 3 = .one (.c (.bool v3_5)) | .inr (v4_6, v13_7, v14_8) => e = .e 0 ∧ x.sl 4 = .one (.c (.sl (v4_6.map rS_impl_Send))) ∧ x.sl 11 = .one (.c (.sl (t0_3.map rS_impl_Term))) ∧ x.sl 12 = .one (.c (.int .i64 (t0_3.length : Int))) ∧ x.sl 13 = .one (.c (.int .i64 v13_7)) ∧ x.sl 14 = .one (.c (.bool v14_8)) ∧ x.ob 1 = some [.int .i64 t0_0, .int .i64 t0_1, .str t0_2, .sl (t0_3.map rS_impl_Term)]) ?_ hq (⟨s4, s11, s12, s13, o1⟩) ?_
    · clear h hq
      clear s4 s11 s12 s13 o1
      intro st o x hR h
      obtain ⟨v4_2, v13_3⟩ := st
      obtain ⟨s4, s11, s12, s13, o1⟩ := hR
      unfold p_impl_SendsOf_b1 at h
      refine c_reg (fun x => x.sl 4 = .one (.c (.sl (v4_2.map rS_impl_Send))) ∧ x.sl 11 = .one (.c (.sl (t0_3.map rS_impl_Term))) ∧ x.sl 12 = .one (.c (.int .i64 (t0_3.length : Int))) ∧ x.sl 13 = .one (.c (.int .i64 v13_3)) ∧ x.sl 14 = .one (.c (.bool (decide (v13_3 < (t0_3.length : Int))))) ∧ x.ob 1 = some [.int .i64 t0_0, .int .i64 t0_1, .str t0_2, .sl (t0_3.map rS_impl_Term)]) ?_ ?_
      · rw [← put_self s4, ← put_self s11, ← put_self s12, ← put_self s13, ← setO_self o1]
        refine rd (.bool (decide (v13_3 < (t0_3.length : Int)))) rfl rfl rfl rfl rfl ?_
        refine step_nil ?_
        exact ⟨rfl, rfl, rfl, rfl, rfl, rfl⟩
      clear s4 s11 s12 s13 o1
      intro x hM
      obtain ⟨s4, s11, s12, s13, s14, o1⟩ := hM
      refine c_seq ?_
      refine bif_cases h (fun q9 h => ?_) (fun q9 h => ?_)
      · refine c_ct (by rw [← q9]; exact s14) ?_
        refine c_skip ?_
        show vcC _ _ _ _ _ _ _
        refine c_seq ?_
        refine c_block ?_
        obtain ⟨e15_10, ke15_10, h⟩ := bind_some h
        refine c_reg (fun x => x.sl 4 = .one (.c (.sl (v4_2.map rS_impl_Send))) ∧ x.sl 6 = .one (.ptr 6 0) ∧ x.sl 11 = .one (.c (.sl (t0_3.map rS_impl_Term))) ∧ x.sl 12 = .one (.c (.int .i64 (t0_3.length : Int))) ∧ x.sl 13 = .one (.c (.int .i64 v13_3)) ∧ x.ob 1 = some [.int .i64 t0_0, .int .i64 t0_1, .str t0_2, .sl (t0_3.map rS_impl_Term)] ∧ x.ob 6 = some [.int .i64 e15_10.f0, .int .i64 e15_10.f1, .str e15_10.f2, .sl (e15_10.f3.map rS_impl_Term)]) ?_ ?_
        · rw [← put_self s4, ← put_self s11, ← put_self s12, ← put_self s13, ← put_self s14, ← setO_self o1]
          refine ixa (f := rS_impl_Term) (row := [.int .i64 e15_10.f0, .int .i64 e15_10.f1, .str e15_10.f2, .sl (e15_10.f3.map rS_impl_Term)]) ke15_10 rfl rfl rfl (by conv => lhs; whnf) (by conv => lhs; whnf) (rS_impl_Term_eq _) rfl rfl ?_
          refine ldc (w := .one (.ag [.int .i64 e15_10.f0, .int .i64 e15_10.f1, .str e15_10.f2, .sl (e15_10.f3.map rS_impl_Term)])) rfl rfl (by conv => lhs; whnf) rfl rfl ?_
          refine alc (cs := [.int .i64 0, .int .i64 0, .str [], .sl ([].map rS_impl_Term)]) rfl rfl rfl rfl ?_
          refine sto (cs := [.int .i64 e15_10.f0, .int .i64 e15_10.f1, .str e15_10.f2, .sl (e15_10.f3.map rS_impl_Term)]) rfl rfl (by conv => lhs; whnf) rfl rfl rfl rfl ?_
          refine step_nil ?_
          exact ⟨rfl, rfl, rfl, rfl, rfl, rfl, rfl⟩
        clear s4 s11 s12 s13 s14 o1
        intro x hM
        obtain ⟨s4, s6, s11, s12, s13, o1, o6⟩ := hM
        refine c_seq ?_
        obtain ⟨v33_11, hr, h⟩ := bind_some h
        refine c_reg (fun x => x.sl 4 = .one (.c (.sl (v4_2.map rS_impl_Send))) ∧ x.sl 6 = .one (.ptr 6 0) ∧ x.sl 11 = .one (.c (.sl (t0_3.map rS_impl_Term))) ∧ x.sl 12 = .one (.c (.int .i64 (t0_3.length : Int))) ∧ x.sl 13 = .one (.c (.int .i64 v13_3)) ∧ x.sl 33 = .one (.c (.bool v33_11)) ∧ x.ob 1 = some [.int .i64 t0_0, .int .i64 t0_1, .str t0_2, .sl (t0_3.map rS_impl_Term)] ∧ x.ob 6 = some [.int .i64 e15_10.f0, .int .i64 e15_10.f1, .str e15_10.f2, .sl (e15_10.f3.map rS_impl_Term)]) ?_ ?_
        · clear h
          rw [← put_self s4, ← put_self s6, ← put_self s11, ← put_self s12, ← put_self s13, ← setO_self o1, ← setO_self o6]
          refine fld (u := .one (.ptr 6 0)) rfl rfl rfl (by conv => lhs; whnf) rfl rfl ?_
          refine ldo (w := .one (.c (.int .i64 e15_10.f0))) rfl rfl rfl (by conv => lhs; whnf) rfl rfl rfl ?_
          refine rd (.bool (!decide (e15_10.f0 = (4 : Int)))) rfl rfl rfl rfl rfl ?_
          refine mv rfl (by conv => lhs; whnf) rfl ?_
          refine bif_cases hr (fun q12 hr => ?_) (fun q12 hr => ?_)
          · refine sk (g_ofc rfl (by conv => lhs; whnf) q12 rfl) ?_
            refine sk (g_ofc rfl (by conv => lhs; whnf) q12 rfl) ?_
            refine sk (g_ofc rfl (by conv => lhs; whnf) q12 rfl) ?_
            refine sk (g_ofc rfl (by conv => lhs; whnf) q12 rfl) ?_
            refine pkc rfl (by conv => lhs; whnf) q12 (by conv => lhs; whnf) rfl ?_
            refine mv rfl (by conv => lhs; whnf) rfl ?_
            refine sk (g_ofc rfl (by conv => lhs; whnf) rfl rfl) ?_
            refine sk (g_ofc rfl (by conv => lhs; whnf) rfl rfl) ?_
            refine sk (g_ofc rfl (by conv => lhs; whnf) rfl rfl) ?_
            refine sk (g_ofc rfl (by conv => lhs; whnf) rfl rfl) ?_
            refine sk (g_ofc rfl (by conv => lhs; whnf) rfl rfl) ?_
            refine sk (g_ofc rfl (by conv => lhs; whnf) rfl rfl) ?_
            refine pkc rfl (by conv => lhs; whnf) rfl (by conv => lhs; whnf) rfl ?_
            refine step_nil ?_
            cases hr
            exact ⟨rfl, rfl, rfl, rfl, rfl, rfl, rfl, rfl⟩
          · refine fld (u := .one (.ptr 6 3)) (g_ofc rfl (by conv => lhs; whnf) q12 rfl) rfl rfl (by conv => lhs; whnf) rfl rfl ?_
            refine ldo (w := .one (.c (.sl (e15_10.f3.map rS_impl_Term)))) (g_ofc rfl (by conv => lhs; whnf) q12 rfl) rfl rfl (by conv => lhs; whnf) rfl rfl rfl ?_
            refine ln (g_ofc rfl (by conv => lhs; whnf) q12 rfl) rfl (by conv => lhs; whnf) rfl ?_
            refine rd (.bool (!decide ((e15_10.f3.length : Int) = (2 : Int)))) (g_ofc rfl (by conv => lhs; whnf) q12 rfl) rfl rfl rfl rfl ?_
            refine pkc rfl (by conv => lhs; whnf) q12 (by conv => lhs; whnf) rfl ?_
            refine mv rfl (by conv => lhs; whnf) rfl ?_
            refine bif_cases hr (fun q13 hr => ?_) (fun q13 hr => ?_)
            · refine sk (g_ofc rfl (by conv => lhs; whnf) q13 rfl) ?_
              refine sk (g_ofc rfl (by conv => lhs; whnf) q13 rfl) ?_
              refine sk (g_ofc rfl (by conv => lhs; whnf) q13 rfl) ?_
              refine sk (g_ofc rfl (by conv => lhs; whnf) q13 rfl) ?_
              refine sk (g_ofc rfl (by conv => lhs; whnf) q13 rfl) ?_
              refine sk (g_ofc rfl (by conv => lhs; whnf) q13 rfl) ?_
              refine pkc rfl (by conv => lhs; whnf) q13 (by conv => lhs; whnf) rfl ?_
              refine step_nil ?_
              cases hr
              exact ⟨rfl, rfl, rfl, rfl, rfl, rfl, rfl, rfl⟩
            · refine fld (u := .one (.ptr 6 3)) (g_ofc rfl (by conv => lhs; whnf) q13 rfl) rfl rfl (by conv => lhs; whnf) rfl rfl ?_
              refine ldo (w := .one (.c (.sl (e15_10.f3.map rS_impl_Term)))) (g_ofc rfl (by conv => lhs; whnf) q13 rfl) rfl rfl (by conv => lhs; whnf) rfl rfl rfl ?_
              obtain ⟨e29_14, ke29_14, hr⟩ := bind_some hr
              refine ixa (f := rS_impl_Term) (row := [.int .i64 e29_14.f0, .int .i64 e29_14.f1, .str e29_14.f2, .sl (e29_14.f3.map rS_impl_Term)]) ke29_14 (g_ofc rfl (by conv => lhs; whnf) q13 rfl) rfl rfl (by conv => lhs; whnf) (by conv => lhs; whnf) (rS_impl_Term_eq _) rfl rfl ?_
              refine ldc (w := .one (.ag [.int .i64 e29_14.f0, .int .i64 e29_14.f1, .str e29_14.f2, .sl (e29_14.f3.map rS_impl_Term)])) (g_ofc rfl (by conv => lhs; whnf) q13 rfl) rfl (by conv => lhs; whnf) rfl rfl ?_
              obtain ⟨c31_15, kc31_15, hr⟩ := bind_some hr
              refine cl0 (v' := .one (.c (.bool c31_15))) (big_impl_isAddress kc31_15) (g_ofc rfl (by conv => lhs; whnf) q13 rfl) rfl rfl rfl rfl rfl rfl rfl rfl ?_
              refine rd (.bool (!c31_15)) (g_ofc rfl (by conv => lhs; whnf) q13 rfl) rfl rfl rfl rfl ?_
              refine pkc rfl (by conv => lhs; whnf) q13 (by conv => lhs; whnf) rfl ?_
              refine step_nil ?_
              cases hr
              exact ⟨rfl, rfl, rfl, rfl, rfl, rfl, rfl, rfl⟩
        clear hr
        clear s4 s6 s11 s12 s13 o1 o6
        intro x hM
        obtain ⟨s4, s6, s11, s12, s13, s33, o1, o6⟩ := hM
        refine bif_cases h (fun q16 h => ?_) (fun q16 h => ?_)
        · refine c_ct (by rw [← q16]; exact s33) ?_
          refine c_reg (fun x => x.sl 2 = .one (.c (.sl ([].map rS_impl_Send))) ∧ x.sl 3 = .one (.c (.bool false)) ∧ x.ob 1 = some [.int .i64 t0_0, .int .i64 t0_1, .str t0_2, .sl (t0_3.map rS_impl_Term)] ∧ x.ob 6 = some [.int .i64 e15_10.f0, .int .i64 e15_10.f1, .str e15_10.f2, .sl (e15_10.f3.map rS_impl_Term)]) ?_ ?_
          · rw [← put_self s4, ← put_self s6, ← put_self s11, ← put_self s12, ← put_self s13, ← put_self s33, ← setO_self o1, ← setO_self o6]
            refine asg rfl (by conv => lhs; whnf) rfl ?_
            refine asg rfl (by conv => lhs; whnf) rfl ?_
            refine step_nil ?_
            exact ⟨rfl, rfl, rfl, rfl⟩
          clear s4 s6 s11 s12 s13 s33 o1 o6
          intro x hM
          obtain ⟨s2, s3, o1, o6⟩ := hM
          refine c_ret ?_
          cases h
          show _ ∧ _
          exact ⟨nofun, rfl, s2, s3⟩
        · refine c_cf (by rw [← q16]; exact s33) ?_
          refine c_skip ?_
          show vcC _ _ _ _ _ _ _
          obtain ⟨e37_17, ke37_17, h⟩ := bind_some h
          obtain ⟨c39_18, kc39_18, h⟩ := bind_some h
          obtain ⟨e42_19, ke42_19, h⟩ := bind_some h
          obtain ⟨c44_20, kc44_20, h⟩ := bind_some h
          obtain ⟨v47_21, kv47_21, h⟩ := bind_some h
          refine c_regl (fun x => x.sl 4 = .one (.c (.sl (v47_21.map rS_impl_Send))) ∧ x.sl 11 = .one (.c (.sl (t0_3.map rS_impl_Term))) ∧ x.sl 12 = .one (.c (.int .i64 (t0_3.length : Int))) ∧ x.sl 13 = .one (.c (.int .i64 v13_3)) ∧ x.ob 1 = some [.int .i64 t0_0, .int .i64 t0_1, .str t0_2, .sl (t0_3.map rS_impl_Term)] ∧ x.ob 6 = some [.int .i64 e15_10.f0, .int .i64 e15_10.f1, .str e15_10.f2, .sl (e15_10.f3.map rS_impl_Term)]) ?_ ?_
          · rw [← put_self s4, ← put_self s6, ← put_self s11, ← put_self s12, ← put_self s13, ← put_self s33, ← setO_self o1, ← setO_self o6]
            refine mv rfl (by conv => lhs; whnf) rfl ?_
            refine fld (u := .one (.ptr 6 3)) rfl rfl rfl (by conv => lhs; whnf) rfl rfl ?_
            refine ldo (w := .one (.c (.sl (e15_10.f3.map rS_impl_Term)))) rfl rfl rfl (by conv => lhs; whnf) rfl rfl rfl ?_
            refine ixa (f := rS_impl_Term) (row := [.int .i64 e37_17.f0, .int .i64 e37_17.f1, .str e37_17.f2, .sl (e37_17.f3.map rS_impl_Term)]) ke37_17 rfl rfl rfl (by conv => lhs; whnf) (by conv => lhs; whnf) (rS_impl_Term_eq _) rfl rfl ?_
            refine ldc (w := .one (.ag [.int .i64 e37_17.f0, .int .i64 e37_17.f1, .str e37_17.f2, .sl (e37_17.f3.map rS_impl_Term)])) rfl rfl (by conv => lhs; whnf) rfl rfl ?_
            refine cl0 (v' := .one (.ag [.int .i64 c39_18.1, .int .i64 c39_18.2.1, .str c39_18.2.2.1, .sl (c39_18.2.2.2.map rS_impl_Term)])) (big_impl_copyTerm kc39_18) rfl rfl rfl rfl rfl rfl rfl rfl rfl ?_
            refine fld (u := .one (.ptr 6 3)) rfl rfl rfl (by conv => lhs; whnf) rfl rfl ?_
            refine ldo (w := .one (.c (.sl (e15_10.f3.map rS_impl_Term)))) rfl rfl rfl (by conv => lhs; whnf) rfl rfl rfl ?_
            refine ixa (f := rS_impl_Term) (row := [.int .i64 e42_19.f0, .int .i64 e42_19.f1, .str e42_19.f2, .sl (e42_19.f3.map rS_impl_Term)]) ke42_19 rfl rfl rfl (by conv => lhs; whnf) (by conv => lhs; whnf) (rS_impl_Term_eq _) rfl rfl ?_
            refine ldc (w := .one (.ag [.int .i64 e42_19.f0, .int .i64 e42_19.f1, .str e42_19.f2, .sl (e42_19.f3.map rS_impl_Term)])) rfl rfl (by conv => lhs; whnf) rfl rfl ?_
            refine cl0 (v' := .one (.ag [.int .i64 c44_20.1, .int .i64 c44_20.2.1, .str c44_20.2.2.1, .sl (c44_20.2.2.2.map rS_impl_Term)])) (big_impl_copyTerm kc44_20) rfl rfl rfl rfl rfl rfl rfl rfl rfl ?_
            refine bld (rs := [.int .i64 c39_18.1, .int .i64 c39_18.2.1, .str c39_18.2.2.1, .sl (c39_18.2.2.2.map rS_impl_Term), .int .i64 c44_20.1, .int .i64 c44_20.2.1, .str c44_20.2.2.1, .sl (c44_20.2.2.2.map rS_impl_Term)]) rfl rfl rfl rfl rfl ?_
            refine lit (L := ([S_impl_Send.mk c39_18.1 c39_18.2.1 c39_18.2.2.1 c39_18.2.2.2 c44_20.1 c44_20.2.1 c44_20.2.2.1 c44_20.2.2.2] : List S_impl_Send)) (f := rS_impl_Send) rfl rfl rfl rfl rfl rfl rfl ?_
            refine apd (f := rS_impl_Send) kv47_21 rfl rfl rfl rfl (by conv => lhs; whnf) rfl rfl rfl (fun _ => rfl) (fun _ => rfl) rfl ?_
            refine asg rfl (by conv => lhs; whnf) rfl ?_
            refine step_nil ?_
            exact ⟨rfl, rfl, rfl, rfl, rfl, rfl⟩
          clear s4 s6 s11 s12 s13 s33 o1 o6
          intro x hM
          obtain ⟨s4, s11, s12, s13, o1, o6⟩ := hM
          show vcC _ _ _ _ _ _ _
          refine c_regl (fun x => x.sl 4 = .one (.c (.sl (v47_21.map rS_impl_Send))) ∧ x.sl 11 = .one (.c (.sl (t0_3.map rS_impl_Term))) ∧ x.sl 12 = .one (.c (.int .i64 (t0_3.length : Int))) ∧ x.sl 13 = .one (.c (.int .i64 (IntKind.wrap .i64 (v13_3 + (1 : Int))))) ∧ x.ob 1 = some [.int .i64 t0_0, .int .i64 t0_1, .str t0_2, .sl (t0_3.map rS_impl_Term)] ∧ x.ob 6 = some [.int .i64 e15_10.f0, .int .i64 e15_10.f1, .str e15_10.f2, .sl (e15_10.f3.map rS_impl_Term)]) ?_ ?_
          · rw [← put_self s4, ← put_self s11, ← put_self s12, ← put_self s13, ← setO_self o1, ← setO_self o6]
            refine rd (.int .i64 (IntKind.wrap .i64 (v13_3 + (1 : Int)))) rfl rfl rfl rfl rfl ?_
            refine mv rfl (by conv => lhs; whnf) rfl ?_
            refine step_nil ?_
            exact ⟨rfl, rfl, rfl, rfl, rfl, rfl⟩
          clear s4 s11 s12 s13 o1 o6
          intro x hM
          obtain ⟨s4, s11, s12, s13, o1, o6⟩ := hM
          cases h
          show _ ∧ _
          exact ⟨rfl, s4, s11, s12, s13, o1⟩
      · refine c_cf (by rw [← q9]; exact s14) ?_
        refine c_exit ?_
        cases h
        show _ ∧ _
        exact ⟨nofun, rfl, s4, s11, s12, s13, s14, o1⟩
    clear hq
    clear s4 s11 s12 s13 o1
    intro e x hM
    rcases q22 with ⟨v2_4, v3_5⟩ | ⟨v4_6, v13_7, v14_8⟩
    · obtain ⟨rfl, s2, s3⟩ := hM
      cases h
      show _ ∧ _
      rw [← put_self s2, ← put_self s3]
      exact ⟨.inr rfl, _, rfl, rfl, rfl, rfl⟩
    · obtain ⟨rfl, s4, s11, s12, s13, s14, o1⟩ := hM
      show vcC _ _ _ _ _ _ _
      refine c_reg (fun x => x.sl 2 = .one (.c (.sl (v4_6.map rS_impl_Send))) ∧ x.sl 3 = .one (.c (.bool true)) ∧ x.ob 1 = some [.int .i64 t0_0, .int .i64 t0_1, .str t0_2, .sl (t0_3.map rS_impl_Term)]) ?_ ?_
      · rw [← put_self s4, ← put_self s11, ← put_self s12, ← put_self s13, ← put_self s14, ← setO_self o1]
        refine mv rfl (by conv => lhs; whnf) rfl ?_
        refine asg rfl (by conv => lhs; whnf) rfl ?_
        refine asg rfl (by conv => lhs; whnf) rfl ?_
        refine step_nil ?_
        exact ⟨rfl, rfl, rfl⟩
      clear s4 s11 s12 s13 s14 o1
      intro x hM
      obtain ⟨s2, s3, o1⟩ := hM
      refine c_ret ?_
      cases h
      show _ ∧ _
      rw [← put_self s2, ← put_self s3]
      exact ⟨.inr rfl, _, rfl, rfl, rfl, rfl⟩
def p_spec_l2Copy_b1 (n : Nat) (r_spec_l2Copy : Int → Int → (List UInt8) → (List S_impl_Term) → Option (Int × Int × (List UInt8) × (List S_impl_Term))) (t0_3 : List S_impl_Term) : (Int × Int × Int × (List UInt8) × (List S_impl_Term)) → Option ((Int × Int × Int × (List UInt8) × (List S_impl_Term)) ⊕ ((Int × Bool × Int × Int × (List UInt8) × (List S_impl_Term))))
  | (v4_1, w3_2, w3_3, w3_4, w3_5) => bif decide (v4_1 < (t0_3.length : Int)) then (ix t0_3 v4_1).bind fun e20_13 => (r_spec_l2Copy e20_13.f0 e20_13.f1 e20_13.f2 e20_13.f3).bind fun c22_14 => (app2 56 w3_5 ([S_impl_Term.mk c22_14.1 c22_14.2.1 c22_14.2.2.1 c22_14.2.2.2] : List S_impl_Term)).bind fun v24_15 => some (.inl ((IntKind.wrap .i64 (v4_1 + (1 : Int))), w3_2, w3_3, w3_4, v24_15)) else some (.inr (v4_1, (decide (v4_1 < (t0_3.length : Int))), w3_2, w3_3, w3_4, w3_5))
def s_spec_l2Copy (n : Nat) (r_spec_l2Copy : Int → Int → (List UInt8) → (List S_impl_Term) → Option (Int × Int × (List UInt8) × (List S_impl_Term))) (t0_0 : Int) (t0_1 : Int) (t0_2 : List UInt8) (t0_3 : List S_impl_Term) : Option (Int × Int × (List UInt8) × (List S_impl_Term)) :=
  (loopN (p_spec_l2Copy_b1 n r_spec_l2Copy t0_3) n ((0 : Int), t0_0, t0_1, t0_2, ([] : List S_impl_Term))).bind fun (v4_6, v12_7, w3_8, w3_9, w3_10, w3_11) => some (w3_8, w3_9, w3_10, w3_11)
theorem step_spec_l2Copy {n : Nat} {r_spec_l2Copy : Int → Int → (List UInt8) → (List S_impl_Term) → Option (Int × Int × (List UInt8) × (List S_impl_Term))} (ih_spec_l2Copy : ∀ {t0_0 : Int} {t0_1 : Int} {t0_2 : List UInt8} {t0_3 : List S_impl_Term} {r : Int × Int × (List UInt8) × (List S_impl_Term)}, r_spec_l2Copy t0_0 t0_1 t0_2 t0_3 = some r → Big Try.prog τ An (.fn 66 [.one (.ag [.int .i64 t0_0, .int .i64 t0_1, .str t0_2, .sl (t0_3.map rS_impl_Term)])] [] (.one (.ag [.int .i64 r.1, .int .i64 r.2.1, .str r.2.2.1, .sl (r.2.2.2.map rS_impl_Term)])) none [] none)) {t0_0 : Int} {t0_1 : Int} {t0_2 : List UInt8} {t0_3 : List S_impl_Term} {r : Int × Int × (List UInt8) × (List S_impl_Term)} (h : s_spec_l2Copy n r_spec_l2Copy t0_0 t0_1 t0_2 t0_3 = some r) : Big Try.prog τ An (.fn 66 [.one (.ag [.int .i64 t0_0, .int .i64 t0_1, .str t0_2, .sl (t0_3.map rS_impl_Term)])] [] (.one (.ag [.int .i64 r.1, .int .i64 r.2.1, .str r.2.2.1, .sl (r.2.2.2.map rS_impl_Term)])) none [] none) := by
  unfold s_spec_l2Copy at h
  refine Big.of Try.func66 rfl rfl rfl rfl ?_
  have s0 : (DA [.one (.ag [.int .i64 t0_0, .int .i64 t0_1, .str t0_2, .sl (t0_3.map rS_impl_Term)])] []).sl 0 = .one (.ag [.int .i64 t0_0, .int .i64 t0_1, .str t0_2, .sl (t0_3.map rS_impl_Term)]) := rfl
  generalize DA [.one (.ag [.int .i64 t0_0, .int .i64 t0_1, .str t0_2, .sl (t0_3.map rS_impl_Term)])] [] = x at s0 ⊢
  refine c_reg (fun x => x.sl 1 = .one (.ptr 1 0) ∧ x.sl 2 = .one (.ptr 2 0) ∧ x.ob 1 = some [.int .i64 t0_0, .int .i64 t0_1, .str t0_2, .sl (t0_3.map rS_impl_Term)] ∧ x.ob 2 = some [.int .i64 0, .int .i64 0, .str [], .sl ([].map rS_impl_Term)]) ?_ ?_
  · rw [← put_self s0]
    refine bx (xs := [.int .i64 t0_0, .int .i64 t0_1, .str t0_2, .sl (t0_3.map rS_impl_Term)]) rfl (by conv => lhs; whnf) rfl rfl ?_
    refine alc (cs := [.int .i64 0, .int .i64 0, .str [], .sl ([].map rS_impl_Term)]) rfl rfl rfl rfl ?_
    refine step_nil ?_
    exact ⟨rfl, rfl, rfl, rfl⟩
  clear s0
  intro x hM
  obtain ⟨s1, s2, o1, o2⟩ := hM
  refine c_reg (fun x => x.sl 1 = .one (.ptr 1 0) ∧ x.sl 2 = .one (.ptr 2 0) ∧ x.sl 3 = .one (.ptr 3 0) ∧ x.ob 1 = some [.int .i64 t0_0, .int .i64 t0_1, .str t0_2, .sl (t0_3.map rS_impl_Term)] ∧ x.ob 2 = some [.int .i64 0, .int .i64 0, .str [], .sl ([].map rS_impl_Term)] ∧ x.ob 3 = some [.int .i64 t0_0, .int .i64 t0_1, .str t0_2, .sl (t0_3.map rS_impl_Term)]) ?_ ?_
  · rw [← put_self s1, ← put_self s2, ← setO_self o1, ← setO_self o2]
    refine ldo (w := .one (.ag [.int .i64 t0_0, .int .i64 t0_1, .str t0_2, .sl (t0_3.map rS_impl_Term)])) rfl rfl rfl (by conv => lhs; whnf) rfl rfl rfl ?_
    refine alc (cs := [.int .i64 0, .int .i64 0, .str [], .sl ([].map rS_impl_Term)]) rfl rfl rfl rfl ?_
    refine sto (cs := [.int .i64 t0_0, .int .i64 t0_1, .str t0_2, .sl (t0_3.map rS_impl_Term)]) rfl rfl (by conv => lhs; whnf) rfl rfl rfl rfl ?_
    refine step_nil ?_
    exact ⟨rfl, rfl, rfl, rfl, rfl, rfl⟩
  clear s1 s2 o1 o2
  intro x hM
  obtain ⟨s1, s2, s3, o1, o2, o3⟩ := hM
  refine c_reg (fun x => x.sl 1 = .one (.ptr 1 0) ∧ x.sl 2 = .one (.ptr 2 0) ∧ x.sl 3 = .one (.ptr 3 0) ∧ x.ob 1 = some [.int .i64 t0_0, .int .i64 t0_1, .str t0_2, .sl (t0_3.map rS_impl_Term)] ∧ x.ob 2 = some [.int .i64 0, .int .i64 0, .str [], .sl ([].map rS_impl_Term)] ∧ x.ob 3 = some [.int .i64 t0_0, .int .i64 t0_1, .str t0_2, .sl ([].map rS_impl_Term)]) ?_ ?_
  · rw [← put_self s1, ← put_self s2, ← put_self s3, ← setO_self o1, ← setO_self o2, ← setO_self o3]
    refine lit (L := ([] : List S_impl_Term)) (f := rS_impl_Term) rfl rfl rfl rfl rfl rfl rfl ?_
    refine fld (u := .one (.ptr 3 3)) rfl rfl rfl (by conv => lhs; whnf) rfl rfl ?_
    refine sto (cs := [.int .i64 t0_0, .int .i64 t0_1, .str t0_2, .sl ([].map rS_impl_Term)]) rfl rfl (by conv => lhs; whnf) rfl rfl rfl rfl ?_
    refine step_nil ?_
    exact ⟨rfl, rfl, rfl, rfl, rfl, rfl⟩
  clear s1 s2 s3 o1 o2 o3
  intro x hM
  obtain ⟨s1, s2, s3, o1, o2, o3⟩ := hM
  refine c_seq ?_
  refine c_reg (fun x => x.sl 1 = .one (.ptr 1 0) ∧ x.sl 2 = .one (.ptr 2 0) ∧ x.sl 3 = .one (.ptr 3 0) ∧ x.sl 4 = .one (.c (.int .i64 0)) ∧ x.ob 1 = some [.int .i64 t0_0, .int .i64 t0_1, .str t0_2, .sl (t0_3.map rS_impl_Term)] ∧ x.ob 2 = some [.int .i64 0, .int .i64 0, .str [], .sl ([].map rS_impl_Term)] ∧ x.ob 3 = some [.int .i64 t0_0, .int .i64 t0_1, .str t0_2, .sl ([].map rS_impl_Term)]) ?_ ?_
  · rw [← put_self s1, ← put_self s2, ← put_self s3, ← setO_self o1, ← setO_self o2, ← setO_self o3]
    refine asg rfl (by conv => lhs; whnf) rfl ?_
    refine step_nil ?_
    exact ⟨rfl, rfl, rfl, rfl, rfl, rfl, rfl⟩
  clear s1 s2 s3 o1 o2 o3
  intro x hM
  obtain ⟨s1, s2, s3, s4, o1, o2, o3⟩ := hM
  obtain ⟨q16, hq, h⟩ := bind_some h
  refine c_block ?_
  refine Wd.loopN (fun s x => match (generalizing := false) s with | (v4_1, w3_2, w3_3, w3_4, w3_5) => x.sl 1 = .one (.ptr 1 0) ∧ x.sl 2 = .one (.ptr 2 0) ∧ x.sl 3 = .one (.ptr 3 0) ∧ x.sl 4 = .one (.c (.int .i64 v4_1)) ∧ x.ob 1 = some [.int .i64 t0_0, .int .i64 t0_1, .str t0_2, .sl (t0_3.map rS_impl_Term)] ∧ x.ob 2 = some [.int .i64 0, .int .i64 0, .str [], .sl ([].map rS_impl_Term)] ∧ x.ob 3 = some [.int .i64 w3_2, .int .i64 w3_3, .str w3_4, .sl (w3_5.map rS_impl_Term)]) (fun q e x => match (generalizing := false) q with | (v4_6, v12_7, w3_8, w3_9, w3_10, w3_11) => e = .e 0 ∧ x.sl 1 = .one (.ptr 1 0) ∧ x.sl 2 = .one (.ptr 2 0) ∧ x.sl 3 = .one (.ptr 3 0) ∧ x.sl 4 = .one (.c (.int .i64 v4_6)) ∧ x.sl 12 = .one (.c (.bool v12_7)) ∧ x.ob 1 = some [.int .i64 t0_0, .int .i64 t0_1, .str t0_2, .sl (t0_3.map rS_impl_Term)] ∧ x.ob 2 = some [.int .i64 0, .int .i64 0, .str [], .sl ([].map rS_impl_Term)] ∧ x.ob 3 = some [.int .i64 w3_8, .int .i64 w3_9, .str w3_10, .sl (w3_11.map rS_impl_Term)]) ?_ hq (⟨s1, s2, s3, s4, o1, o2, o3⟩) ?_
  · clear h hq
    clear s1 s2 s3 s4 o1 o2 o3
    intro st o x hR h
    obtain ⟨v4_1, w3_2, w3_3, w3_4, w3_5⟩ := st
    obtain ⟨s1, s2, s3, s4, o1, o2, o3⟩ := hR
    unfold p_spec_l2Copy_b1 at h
    refine c_seq ?_
    refine c_reg (fun x => x.sl 1 = .one (.ptr 1 0) ∧ x.sl 2 = .one (.ptr 2 0) ∧ x.sl 3 = .one (.ptr 3 0) ∧ x.sl 4 = .one (.c (.int .i64 v4_1)) ∧ x.sl 12 = .one (.c (.bool (decide (v4_1 < (t0_3.length : Int))))) ∧ x.ob 1 = some [.int .i64 t0_0, .int .i64 t0_1, .str t0_2, .sl (t0_3.map rS_impl_Term)] ∧ x.ob 2 = some [.int .i64 0, .int .i64 0, .str [], .sl ([].map rS_impl_Term)] ∧ x.ob 3 = some [.int .i64 w3_2, .int .i64 w3_3, .str w3_4, .sl (w3_5.map rS_impl_Term)]) ?_ ?_
    · rw [← put_self s1, ← put_self s2, ← put_self s3, ← put_self s4, ← setO_self o1, ← setO_self o2, ← setO_self o3]
      refine mv rfl (by conv => lhs; whnf) rfl ?_
      refine fld (u := .one (.ptr 1 3)) rfl rfl rfl (by conv => lhs; whnf) rfl rfl ?_
      refine ldo (w := .one (.c (.sl (t0_3.map rS_impl_Term)))) rfl rfl rfl (by conv => lhs; whnf) rfl rfl rfl ?_
      refine ln rfl rfl (by conv => lhs; whnf) rfl ?_
      refine rd (.bool (decide (v4_1 < (t0_3.length : Int)))) rfl rfl rfl rfl rfl ?_
      refine step_nil ?_
      exact ⟨rfl, rfl, rfl, rfl, rfl, rfl, rfl, rfl⟩
    clear s1 s2 s3 s4 o1 o2 o3
    intro x hM
    obtain ⟨s1, s2, s3, s4, s12, o1, o2, o3⟩ := hM
    refine bif_cases h (fun q12 h => ?_) (fun q12 h => ?_)
    · refine c_ct (by rw [← q12]; exact s12) ?_
      refine c_skip ?_
      show vcC _ _ _ _ _ _ _
      refine c_seq ?_
      refine c_block ?_
      obtain ⟨e20_13, ke20_13, h⟩ := bind_some h
      obtain ⟨c22_14, kc22_14, h⟩ := bind_some h
      obtain ⟨v24_15, kv24_15, h⟩ := bind_some h
      refine c_regl (fun x => x.sl 1 = .one (.ptr 1 0) ∧ x.sl 2 = .one (.ptr 2 0) ∧ x.sl 3 = .one (.ptr 3 0) ∧ x.sl 4 = .one (.c (.int .i64 v4_1)) ∧ x.ob 1 = some [.int .i64 t0_0, .int .i64 t0_1, .str t0_2, .sl (t0_3.map rS_impl_Term)] ∧ x.ob 2 = some [.int .i64 0, .int .i64 0, .str [], .sl ([].map rS_impl_Term)] ∧ x.ob 3 = some [.int .i64 w3_2, .int .i64 w3_3, .str w3_4, .sl (v24_15.map rS_impl_Term)]) ?_ ?_
      · rw [← put_self s1, ← put_self s2, ← put_self s3, ← put_self s4, ← put_self s12, ← setO_self o1, ← setO_self o2, ← setO_self o3]
        refine fld (u := .one (.ptr 3 3)) rfl rfl rfl (by conv => lhs; whnf) rfl rfl ?_
        refine ldo (w := .one (.c (.sl (w3_5.map rS_impl_Term)))) rfl rfl rfl (by conv => lhs; whnf) rfl rfl rfl ?_
        refine fld (u := .one (.ptr 1 3)) rfl rfl rfl (by conv => lhs; whnf) rfl rfl ?_
        refine ldo (w := .one (.c (.sl (t0_3.map rS_impl_Term)))) rfl rfl rfl (by conv => lhs; whnf) rfl rfl rfl ?_
        refine mv rfl (by conv => lhs; whnf) rfl ?_
        refine ixa (f := rS_impl_Term) (row := [.int .i64 e20_13.f0, .int .i64 e20_13.f1, .str e20_13.f2, .sl (e20_13.f3.map rS_impl_Term)]) ke20_13 rfl rfl rfl (by conv => lhs; whnf) (by conv => lhs; whnf) (rS_impl_Term_eq _) rfl rfl ?_
        refine ldc (w := .one (.ag [.int .i64 e20_13.f0, .int .i64 e20_13.f1, .str e20_13.f2, .sl (e20_13.f3.map rS_impl_Term)])) rfl rfl (by conv => lhs; whnf) rfl rfl ?_
        refine cl0 (v' := .one (.ag [.int .i64 c22_14.1, .int .i64 c22_14.2.1, .str c22_14.2.2.1, .sl (c22_14.2.2.2.map rS_impl_Term)])) (ih_spec_l2Copy kc22_14) rfl rfl rfl rfl rfl rfl rfl rfl rfl ?_
        refine lit (L := ([S_impl_Term.mk c22_14.1 c22_14.2.1 c22_14.2.2.1 c22_14.2.2.2] : List S_impl_Term)) (f := rS_impl_Term) rfl rfl rfl rfl (by simp only [List.map, rS_impl_Term_mk]) rfl rfl ?_
        refine apd (f := rS_impl_Term) kv24_15 rfl rfl rfl rfl (by conv => lhs; whnf) rfl rfl rfl (fun a => by rw [rS_impl_Term_eq]; rfl) (fun a => by rw [rS_impl_Term_eq]; rfl) rfl ?_
        refine fld (u := .one (.ptr 3 3)) rfl rfl rfl (by conv => lhs; whnf) rfl rfl ?_
        refine sto (cs := [.int .i64 w3_2, .int .i64 w3_3, .str w3_4, .sl (v24_15.map rS_impl_Term)]) rfl rfl (by conv => lhs; whnf) rfl rfl rfl rfl ?_
        refine step_nil ?_
        exact ⟨rfl, rfl, rfl, rfl, rfl, rfl, rfl⟩
      clear s1 s2 s3 s4 s12 o1 o2 o3
      intro x hM
      obtain ⟨s1, s2, s3, s4, o1, o2, o3⟩ := hM
      show vcC _ _ _ _ _ _ _
      refine c_regl (fun x => x.sl 1 = .one (.ptr 1 0) ∧ x.sl 2 = .one (.ptr 2 0) ∧ x.sl 3 = .one (.ptr 3 0) ∧ x.sl 4 = .one (.c (.int .i64 (IntKind.wrap .i64 (v4_1 + (1 : Int))))) ∧ x.ob 1 = some [.int .i64 t0_0, .int .i64 t0_1, .str t0_2, .sl (t0_3.map rS_impl_Term)] ∧ x.ob 2 = some [.int .i64 0, .int .i64 0, .str [], .sl ([].map rS_impl_Term)] ∧ x.ob 3 = some [.int .i64 w3_2, .int .i64 w3_3, .str w3_4, .sl (v24_15.map rS_impl_Term)]) ?_ ?_
      · rw [← put_self s1, ← put_self s2, ← put_self s3, ← put_self s4, ← setO_self o1, ← setO_self o2, ← setO_self o3]
        refine mv rfl (by conv => lhs; whnf) rfl ?_
        refine rd (.int .i64 (IntKind.wrap .i64 (v4_1 + (1 : Int)))) rfl rfl rfl rfl rfl ?_
        refine asg rfl (by conv => lhs; whnf) rfl ?_
        refine step_nil ?_
        exact ⟨rfl, rfl, rfl, rfl, rfl, rfl, rfl⟩
      clear s1 s2 s3 s4 o1 o2 o3
      intro x hM
      obtain ⟨s1, s2, s3, s4, o1, o2, o3⟩ := hM
      cases h
      show _ ∧ _
      exact ⟨rfl, s1, s2, s3, s4, o1, o2, o3⟩
    · refine c_cf (by rw [← q12]; exact s12) ?_
      refine c_exit ?_
      cases h
      show _ ∧ _
      exact ⟨nofun, rfl, s1, s2, s3, s4, s12, o1, o2, o3⟩
  clear hq
  clear s1 s2 s3 s4 o1 o2 o3
  intro e x hM
  obtain ⟨v4_6, v12_7, w3_8, w3_9, w3_10, w3_11⟩ := q16
  obtain ⟨rfl, s1, s2, s3, s4, s12, o1, o2, o3⟩ := hM
  show vcC _ _ _ _ _ _ _
  refine c_reg (fun x => x.sl 2 = .one (.ptr 2 0) ∧ x.ob 1 = some [.int .i64 t0_0, .int .i64 t0_1, .str t0_2, .sl (t0_3.map rS_impl_Term)] ∧ x.ob 2 = some [.int .i64 w3_8, .int .i64 w3_9, .str w3_10, .sl (w3_11.map rS_impl_Term)] ∧ x.ob 3 = some [.int .i64 w3_8, .int .i64 w3_9, .str w3_10, .sl (w3_11.map rS_impl_Term)]) ?_ ?_
  · rw [← put_self s1, ← put_self s2, ← put_self s3, ← put_self s4, ← put_self s12, ← setO_self o1, ← setO_self o2, ← setO_self o3]
    refine ldo (w := .one (.ag [.int .i64 w3_8, .int .i64 w3_9, .str w3_10, .sl (w3_11.map rS_impl_Term)])) rfl rfl rfl (by conv => lhs; whnf) rfl rfl rfl ?_
    refine sto (cs := [.int .i64 w3_8, .int .i64 w3_9, .str w3_10, .sl (w3_11.map rS_impl_Term)]) rfl rfl (by conv => lhs; whnf) rfl rfl rfl rfl ?_
    refine step_nil ?_
    exact ⟨rfl, rfl, rfl, rfl⟩
  clear s1 s2 s3 s4 s12 o1 o2 o3
  intro x hM
  obtain ⟨s2, o1, o2, o3⟩ := hM
  refine c_ret ?_
  cases h
  show _ ∧ _
  rw [← put_self s2, ← setO_self o2]
  exact ⟨.inr rfl, _, rfl, rfl, rfl, rfl⟩
def q_spec_l2Copy : Nat → (Int → Int → (List UInt8) → (List S_impl_Term) → Option (Int × Int × (List UInt8) × (List S_impl_Term)))
  | 0 => (fun _ _ _ _ => none)
  | n + 1 => s_spec_l2Copy n (q_spec_l2Copy n)
def p_spec_l2Copy (n : Nat) : Int → Int → (List UInt8) → (List S_impl_Term) → Option (Int × Int × (List UInt8) × (List S_impl_Term)) := q_spec_l2Copy n
theorem bigs_spec_l2Copy : ∀ n : Nat, (∀ {t0_0 : Int} {t0_1 : Int} {t0_2 : List UInt8} {t0_3 : List S_impl_Term} {r : Int × Int × (List UInt8) × (List S_impl_Term)}, p_spec_l2Copy n t0_0 t0_1 t0_2 t0_3 = some r → Big Try.prog τ An (.fn 66 [.one (.ag [.int .i64 t0_0, .int .i64 t0_1, .str t0_2, .sl (t0_3.map rS_impl_Term)])] [] (.one (.ag [.int .i64 r.1, .int .i64 r.2.1, .str r.2.2.1, .sl (r.2.2.2.map rS_impl_Term)])) none [] none)) := by
  intro n
  induction n with
  | zero => exact (fun h => nomatch h)
  | succ n ih => exact (fun h => step_spec_l2Copy (n := n) (ih) h)
theorem big_spec_l2Copy {n : Nat} {t0_0 : Int} {t0_1 : Int} {t0_2 : List UInt8} {t0_3 : List S_impl_Term} {r : Int × Int × (List UInt8) × (List S_impl_Term)} (h : p_spec_l2Copy n t0_0 t0_1 t0_2 t0_3 = some r) : Big Try.prog τ An (.fn 66 [.one (.ag [.int .i64 t0_0, .int .i64 t0_1, .str t0_2, .sl (t0_3.map rS_impl_Term)])] [] (.one (.ag [.int .i64 r.1, .int .i64 r.2.1, .str r.2.2.1, .sl (r.2.2.2.map rS_impl_Term)])) none [] none) := (bigs_spec_l2Copy n) h
theorem p_spec_l2Copy_succ (n : Nat) : p_spec_l2Copy (n + 1) = s_spec_l2Copy n (p_spec_l2Copy n) := rfl
def p_spec_SendsOf_b1 (n : Nat) (t0_3 : List S_impl_Term) : ((List S_impl_Send) × Int) → Option (((List S_impl_Send) × Int) ⊕ (((List S_impl_Send) × Bool) ⊕ ((List S_impl_Send) × Int × Bool)))
  | (v4_2, v5_3) => bif decide (v5_3 < (t0_3.length : Int)) then (ix t0_3 v5_3).bind fun e22_10 => (bif !decide (e22_10.f0 = (4 : Int)) then some true else bif !decide ((e22_10.f3.length : Int) = (2 : Int)) then some true else (ix e22_10.f3 (0 : Int)).bind fun e36_14 => bif !decide (e36_14.f0 = (2 : Int)) then (ix e22_10.f3 (0 : Int)).bind fun e43_16 => some (!decide (e43_16.f0 = (3 : Int))) else some false).bind fun v48_11 => bif v48_11 then some (.inr (.inl (([] : List S_impl_Send), false))) else (ix e22_10.f3 (0 : Int)).bind fun e53_18 => (p_spec_l2Copy n e53_18.f0 e53_18.f1 e53_18.f2 e53_18.f3).bind fun c55_19 => (ix e22_10.f3 (1 : Int)).bind fun e58_20 => (p_spec_l2Copy n e58_20.f0 e58_20.f1 e58_20.f2 e58_20.f3).bind fun c60_21 => (app2 112 v4_2 ([S_impl_Send.mk c55_19.1 c55_19.2.1 c55_19.2.2.1 c55_19.2.2.2 c60_21.1 c60_21.2.1 c60_21.2.2.1 c60_21.2.2.2] : List S_impl_Send)).bind fun v63_22 => some (.inl (v63_22, (IntKind.wrap .i64 (v5_3 + (1 : Int))))) else some (.inr (.inr (v4_2, v5_3, (decide (v5_3 < (t0_3.length : Int))))))
def p_spec_SendsOf (n : Nat) (t0_0 : Int) (t0_1 : Int) (t0_2 : List UInt8) (t0_3 : List S_impl_Term) : Option ((List S_impl_Send) × Bool) :=
  bif !decide (t0_0 = (5 : Int)) then some (([] : List S_impl_Send), false) else (loopN (p_spec_SendsOf_b1 n t0_3) n (([] : List S_impl_Send), (0 : Int))).bind fun q => (match q with | .inl (v2_4, v3_5) => some (v2_4, v3_5) | .inr (v4_6, v5_7, v16_8) => some (v4_6, true))
theorem big_spec_SendsOf {n : Nat} {t0_0 : Int} {t0_1 : Int} {t0_2 : List UInt8} {t0_3 : List S_impl_Term} {r : (List S_impl_Send) × Bool} (h : p_spec_SendsOf n t0_0 t0_1 t0_2 t0_3 = some r) : Big Try.prog τ An (.fn 22 [.one (.ag [.int .i64 t0_0, .int .i64 t0_1, .str t0_2, .sl (t0_3.map rS_impl_Term)])] [] (.tup [.c (.sl (r.1.map rS_impl_Send)), .c (.bool r.2)]) none [] none) := by
  unfold p_spec_SendsOf at h
  refine Big.of Try.func22 rfl rfl rfl rfl ?_
  have s0 : (DA [.one (.ag [.int .i64 t0_0, .int .i64 t0_1, .str t0_2, .sl (t0_3.map rS_impl_Term)])] []).sl 0 = .one (.ag [.int .i64 t0_0, .int .i64 t0_1, .str t0_2, .sl (t0_3.map rS_impl_Term)]) := rfl
  generalize DA [.one (.ag [.int .i64 t0_0, .int .i64 t0_1, .str t0_2, .sl (t0_3.map rS_impl_Term)])] [] = x at s0 ⊢
  refine c_reg (fun x => x.sl 1 = .one (.ptr 1 0) ∧ x.ob 1 = some [.int .i64 t0_0, .int .i64 t0_1, .str t0_2, .sl (t0_3.map rS_impl_Term)]) ?_ ?_
  · rw [← put_self s0]
    refine bx (xs := [.int .i64 t0_0, .int .i64 t0_1, .str t0_2, .sl (t0_3.map rS_impl_Term)]) rfl (by conv => lhs; whnf) rfl rfl ?_
    refine asg rfl (by conv => lhs; whnf) rfl ?_
    refine asg rfl (by conv => lhs; whnf) rfl ?_
    refine step_nil ?_
    exact ⟨rfl, rfl⟩
  clear s0
  intro x hM
  obtain ⟨s1, o1⟩ := hM
  refine c_reg (fun x => x.sl 1 = .one (.ptr 1 0) ∧ x.sl 4 = .one (.c (.sl ([].map rS_impl_Send))) ∧ x.ob 1 = some [.int .i64 t0_0, .int .i64 t0_1, .str t0_2, .sl (t0_3.map rS_impl_Term)]) ?_ ?_
  · rw [← put_self s1, ← setO_self o1]
    refine lit (L := ([] : List S_impl_Send)) (f := rS_impl_Send) rfl rfl rfl rfl rfl rfl rfl ?_
    refine asg rfl (by conv => lhs; whnf) rfl ?_
    refine step_nil ?_
    exact ⟨rfl, rfl, rfl⟩
  clear s1 o1
  intro x hM
  obtain ⟨s1, s4, o1⟩ := hM
  refine c_seq ?_
  refine c_reg (fun x => x.sl 1 = .one (.ptr 1 0) ∧ x.sl 4 = .one (.c (.sl ([].map rS_impl_Send))) ∧ x.sl 10 = .one (.c (.bool (!decide (t0_0 = (5 : Int))))) ∧ x.ob 1 = some [.int .i64 t0_0, .int .i64 t0_1, .str t0_2, .sl (t0_3.map rS_impl_Term)]) ?_ ?_
  · rw [← put_self s1, ← put_self s4, ← setO_self o1]
    refine fld (u := .one (.ptr 1 0)) rfl rfl rfl (by conv => lhs; whnf) rfl rfl ?_
    refine ldo (w := .one (.c (.int .i64 t0_0))) rfl rfl rfl (by conv => lhs; whnf) rfl rfl rfl ?_
    refine rd (.bool (!decide (t0_0 = (5 : Int)))) rfl rfl rfl rfl rfl ?_
    refine step_nil ?_
    exact ⟨rfl, rfl, rfl, rfl⟩
  clear s1 s4 o1
  intro x hM
  obtain ⟨s1, s4, s10, o1⟩ := hM
  refine bif_cases h (fun q1 h => ?_) (fun q1 h => ?_)
  · refine c_ct (by rw [← q1]; exact s10) ?_
    refine c_reg (fun x => x.sl 2 = .one (.c (.sl ([].map rS_impl_Send))) ∧ x.sl 3 = .one (.c (.bool false)) ∧ x.ob 1 = some [.int .i64 t0_0, .int .i64 t0_1, .str t0_2, .sl (t0_3.map rS_impl_Term)]) ?_ ?_
    · rw [← put_self s1, ← put_self s4, ← put_self s10, ← setO_self o1]
      refine mv rfl (by conv => lhs; whnf) rfl ?_
      refine asg rfl (by conv => lhs; whnf) rfl ?_
      refine asg rfl (by conv => lhs; whnf) rfl ?_
      refine step_nil ?_
      exact ⟨rfl, rfl, rfl⟩
    clear s1 s4 s10 o1
    intro x hM
    obtain ⟨s2, s3, o1⟩ := hM
    refine c_ret ?_
    cases h
    show _ ∧ _
    rw [← put_self s2, ← put_self s3]
    exact ⟨.inr rfl, _, rfl, rfl, rfl, rfl⟩
  · refine c_cf (by rw [← q1]; exact s10) ?_
    refine c_skip ?_
    show vcC _ _ _ _ _ _ _
    refine c_seq ?_
    refine c_reg (fun x => x.sl 1 = .one (.ptr 1 0) ∧ x.sl 4 = .one (.c (.sl ([].map rS_impl_Send))) ∧ x.sl 5 = .one (.c (.int .i64 0)) ∧ x.ob 1 = some [.int .i64 t0_0, .int .i64 t0_1, .str t0_2, .sl (t0_3.map rS_impl_Term)]) ?_ ?_
    · rw [← put_self s1, ← put_self s4, ← put_self s10, ← setO_self o1]
      refine asg rfl (by conv => lhs; whnf) rfl ?_
      refine step_nil ?_
      exact ⟨rfl, rfl, rfl, rfl⟩
    clear s1 s4 s10 o1
    intro x hM
    obtain ⟨s1, s4, s5, o1⟩ := hM
    obtain ⟨q23, hq, h⟩ := bind_some h
    refine c_block ?_
    refine Wd.loopN (fun s x => match (generalizing := false) s with | (v4_2, v5_3) => x.sl 1 = .one (.ptr 1 0) ∧ x.sl 4 = .one (.c (.sl (v4_2.map rS_impl_Send))) ∧ x.sl 5 = .one (.c (.int .i64 v5_3)) ∧ x.ob 1 = some [.int .i64 t0_0, .int .i64 t0_1, .str t0_2, .sl (t0_3.map rS_impl_Term)]) (fun q e x => match (generalizing := false) q with | .inl (v2_4, v3_5) => e = .r ∧ x.sl 2 = .one (.c (.sl (v2_4.map rS_impl_Send))) ∧ x.sl 3 = .one (.c (.bool v3_5)) | .inr (v4_6, v5_7, v16_8) => e = .e 0 ∧ x.sl 1 = .one (.ptr 1 0) ∧ x.sl 4 = .one (.c (.sl (v4_6.map rS_impl_Send))) ∧ x.sl 5 = .one (.c (.int .i64 v5_7)) ∧ x.sl 16 = .one (.c (.bool v16_8)) ∧ x.ob 1 = some [.int .i64 t0_0, .int .i64 t0_1, .str t0_2, .sl (t0_3.map rS_impl_Term)]) ?_ hq (⟨s1, s4, s5, o1⟩) ?_
    · clear h hq
      clear s1 s4 s5 o1
      intro st o x hR h
      obtain ⟨v4_2, v5_3⟩ := st
      obtain ⟨s1, s4, s5, o1⟩ := hR
      unfold p_spec_SendsOf_b1 at h
      refine c_seq ?_
      refine c_reg (fun x => x.sl 1 = .one (.ptr 1 0) ∧ x.sl 4 = .one (.c (.sl (v4_2.map rS_impl_Send))) ∧ x.sl 5 = .one (.c (.int .i64 v5_3)) ∧ x.sl 16 = .one (.c (.bool (decide (v5_3 < (t0_3.length : Int))))) ∧ x.ob 1 = some [.int .i64 t0_0, .int .i64 t0_1, .str t0_2, .sl (t0_3.map rS_impl_Term)]) ?_ ?_
      · rw [← put_self s1, ← put_self s4, ← put_self s5, ← setO_self o1]
        refine mv rfl (by conv => lhs; whnf) rfl ?_
        refine fld (u := .one (.ptr 1 3)) rfl rfl rfl (by conv => lhs; whnf) rfl rfl ?_
        refine ldo (w := .one (.c (.sl (t0_3.map rS_impl_Term)))) rfl rfl rfl (by conv => lhs; whnf) rfl rfl rfl ?_
        refine ln rfl rfl (by conv => lhs; whnf) rfl ?_
        refine rd (.bool (decide (v5_3 < (t0_3.length : Int)))) rfl rfl rfl rfl rfl ?_
        refine step_nil ?_
        exact ⟨rfl, rfl, rfl, rfl, rfl⟩
      clear s1 s4 s5 o1
      intro x hM
      obtain ⟨s1, s4, s5, s16, o1⟩ := hM
      refine bif_cases h (fun q9 h => ?_) (fun q9 h => ?_)
      · refine c_ct (by rw [← q9]; exact s16) ?_
        refine c_skip ?_
        show vcC _ _ _ _ _ _ _
        refine c_seq ?_
        refine c_block ?_
        obtain ⟨e22_10, ke22_10, h⟩ := bind_some h
        refine c_reg (fun x => x.sl 1 = .one (.ptr 1 0) ∧ x.sl 4 = .one (.c (.sl (v4_2.map rS_impl_Send))) ∧ x.sl 5 = .one (.c (.int .i64 v5_3)) ∧ x.sl 6 = .one (.ptr 6 0) ∧ x.ob 1 = some [.int .i64 t0_0, .int .i64 t0_1, .str t0_2, .sl (t0_3.map rS_impl_Term)] ∧ x.ob 6 = some [.int .i64 e22_10.f0, .int .i64 e22_10.f1, .str e22_10.f2, .sl (e22_10.f3.map rS_impl_Term)]) ?_ ?_
        · rw [← put_self s1, ← put_self s4, ← put_self s5, ← put_self s16, ← setO_self o1]
          refine fld (u := .one (.ptr 1 3)) rfl rfl rfl (by conv => lhs; whnf) rfl rfl ?_
          refine ldo (w := .one (.c (.sl (t0_3.map rS_impl_Term)))) rfl rfl rfl (by conv => lhs; whnf) rfl rfl rfl ?_
          refine mv rfl (by conv => lhs; whnf) rfl ?_
          refine ixa (f := rS_impl_Term) (row := [.int .i64 e22_10.f0, .int .i64 e22_10.f1, .str e22_10.f2, .sl (e22_10.f3.map rS_impl_Term)]) ke22_10 rfl rfl rfl (by conv => lhs; whnf) (by conv => lhs; whnf) (rS_impl_Term_eq _) rfl rfl ?_
          refine ldc (w := .one (.ag [.int .i64 e22_10.f0, .int .i64 e22_10.f1, .str e22_10.f2, .sl (e22_10.f3.map rS_impl_Term)])) rfl rfl (by conv => lhs; whnf) rfl rfl ?_
          refine alc (cs := [.int .i64 0, .int .i64 0, .str [], .sl ([].map rS_impl_Term)]) rfl rfl rfl rfl ?_
          refine sto (cs := [.int .i64 e22_10.f0, .int .i64 e22_10.f1, .str e22_10.f2, .sl (e22_10.f3.map rS_impl_Term)]) rfl rfl (by conv => lhs; whnf) rfl rfl rfl rfl ?_
          refine step_nil ?_
          exact ⟨rfl, rfl, rfl, rfl, rfl, rfl⟩
        clear s1 s4 s5 s16 o1
        intro x hM
        obtain ⟨s1, s4, s5, s6, o1, o6⟩ := hM
        refine c_seq ?_
        obtain ⟨v48_11, hr, h⟩ := bind_some h
        refine c_reg (fun x => x.sl 1 = .one (.ptr 1 0) ∧ x.sl 4 = .one (.c (.sl (v4_2.map rS_impl_Send))) ∧ x.sl 5 = .one (.c (.int .i64 v5_3)) ∧ x.sl 6 = .one (.ptr 6 0) ∧ x.sl 48 = .one (.c (.bool v48_11)) ∧ x.ob 1 = some [.int .i64 t0_0, .int .i64 t0_1, .str t0_2, .sl (t0_3.map rS_impl_Term)] ∧ x.ob 6 = some [.int .i64 e22_10.f0, .int .i64 e22_10.f1, .str e22_10.f2, .sl (e22_10.f3.map rS_impl_Term)]) ?_ ?_
        · clear h
          rw [← put_self s1, ← put_self s4, ← put_self s5, ← put_self s6, ← setO_self o1, ← setO_self o6]
          refine fld (u := .one (.ptr 6 0)) rfl rfl rfl (by conv => lhs; whnf) rfl rfl ?_
          refine ldo (w := .one (.c (.int .i64 e22_10.f0))) rfl rfl rfl (by conv => lhs; whnf) rfl rfl rfl ?_
          refine rd (.bool (!decide (e22_10.f0 = (4 : Int)))) rfl rfl rfl rfl rfl ?_
          refine mv rfl (by conv => lhs; whnf) rfl ?_
          refine bif_cases hr (fun q12 hr => ?_) (fun q12 hr => ?_)
          · refine sk (g_ofc rfl (by conv => lhs; whnf) q12 rfl) ?_
            refine sk (g_ofc rfl (by conv => lhs; whnf) q12 rfl) ?_
            refine sk (g_ofc rfl (by conv => lhs; whnf) q12 rfl) ?_
            refine sk (g_ofc rfl (by conv => lhs; whnf) q12 rfl) ?_
            refine pkc rfl (by conv => lhs; whnf) q12 (by conv => lhs; whnf) rfl ?_
            refine mv rfl (by conv => lhs; whnf) rfl ?_
            refine sk (g_ofc rfl (by conv => lhs; whnf) rfl rfl) ?_
            refine sk (g_ofc rfl (by conv => lhs; whnf) rfl rfl) ?_
            refine sk (g_ofc rfl (by conv => lhs; whnf) rfl rfl) ?_
            refine sk (g_ofc rfl (by conv => lhs; whnf) rfl rfl) ?_
            refine sk (g_ofc rfl (by conv => lhs; whnf) rfl rfl) ?_
            refine sk (g_ofc rfl (by conv => lhs; whnf) rfl rfl) ?_
            refine sk (g_ofc rfl (by conv => lhs; whnf) rfl rfl) ?_
            refine sk (g_und rfl rfl) ?_
            refine sk (g_und rfl rfl) ?_
            refine sk (g_und rfl rfl) ?_
            refine sk (g_und rfl rfl) ?_
            refine sk (g_und rfl rfl) ?_
            refine sk (g_und rfl rfl) ?_
            refine sk (g_ofc rfl (by conv => lhs; whnf) rfl rfl) ?_
            refine pkc rfl (by conv => lhs; whnf) rfl (by conv => lhs; whnf) rfl ?_
            refine step_nil ?_
            cases hr
            exact ⟨rfl, rfl, rfl, rfl, rfl, rfl, rfl⟩
          · refine fld (u := .one (.ptr 6 3)) (g_ofc rfl (by conv => lhs; whnf) q12 rfl) rfl rfl (by conv => lhs; whnf) rfl rfl ?_
            refine ldo (w := .one (.c (.sl (e22_10.f3.map rS_impl_Term)))) (g_ofc rfl (by conv => lhs; whnf) q12 rfl) rfl rfl (by conv => lhs; whnf) rfl rfl rfl ?_
            refine ln (g_ofc rfl (by conv => lhs; whnf) q12 rfl) rfl (by conv => lhs; whnf) rfl ?_
            refine rd (.bool (!decide ((e22_10.f3.length : Int) = (2 : Int)))) (g_ofc rfl (by conv => lhs; whnf) q12 rfl) rfl rfl rfl rfl ?_
            refine pkc rfl (by conv => lhs; whnf) q12 (by conv => lhs; whnf) rfl ?_
            refine mv rfl (by conv => lhs; whnf) rfl ?_
            refine bif_cases hr (fun q13 hr => ?_) (fun q13 hr => ?_)
            · refine sk (g_ofc rfl (by conv => lhs; whnf) q13 rfl) ?_
              refine sk (g_ofc rfl (by conv => lhs; whnf) q13 rfl) ?_
              refine sk (g_ofc rfl (by conv => lhs; whnf) q13 rfl) ?_
              refine sk (g_ofc rfl (by conv => lhs; whnf) q13 rfl) ?_
              refine sk (g_ofc rfl (by conv => lhs; whnf) q13 rfl) ?_
              refine sk (g_ofc rfl (by conv => lhs; whnf) q13 rfl) ?_
              refine sk (g_ofc rfl (by conv => lhs; whnf) q13 rfl) ?_
              refine sk (g_und rfl rfl) ?_
              refine sk (g_und rfl rfl) ?_
              refine sk (g_und rfl rfl) ?_
              refine sk (g_und rfl rfl) ?_
              refine sk (g_und rfl rfl) ?_
              refine sk (g_und rfl rfl) ?_
              refine sk (g_ofc rfl (by conv => lhs; whnf) q13 rfl) ?_
              refine pkc rfl (by conv => lhs; whnf) q13 (by conv => lhs; whnf) rfl ?_
              refine step_nil ?_
              cases hr
              exact ⟨rfl, rfl, rfl, rfl, rfl, rfl, rfl⟩
            · refine fld (u := .one (.ptr 6 3)) (g_ofc rfl (by conv => lhs; whnf) q13 rfl) rfl rfl (by conv => lhs; whnf) rfl rfl ?_
              refine ldo (w := .one (.c (.sl (e22_10.f3.map rS_impl_Term)))) (g_ofc rfl (by conv => lhs; whnf) q13 rfl) rfl rfl (by conv => lhs; whnf) rfl rfl rfl ?_
              obtain ⟨e36_14, ke36_14, hr⟩ := bind_some hr
              refine ixa (f := rS_impl_Term) (row := [.int .i64 e36_14.f0, .int .i64 e36_14.f1, .str e36_14.f2, .sl (e36_14.f3.map rS_impl_Term)]) ke36_14 (g_ofc rfl (by conv => lhs; whnf) q13 rfl) rfl rfl (by conv => lhs; whnf) (by conv => lhs; whnf) (rS_impl_Term_eq _) rfl rfl ?_
              refine fld (u := .one (.cp [.int .i64 e36_14.f0, .int .i64 e36_14.f1, .str e36_14.f2, .sl (e36_14.f3.map rS_impl_Term)])) (g_ofc rfl (by conv => lhs; whnf) q13 rfl) rfl rfl (by conv => lhs; whnf) rfl rfl ?_
              refine ldc (w := .one (.c (.int .i64 e36_14.f0))) (g_ofc rfl (by conv => lhs; whnf) q13 rfl) rfl (by conv => lhs; whnf) rfl rfl ?_
              refine rd (.bool (!decide (e36_14.f0 = (2 : Int)))) (g_ofc rfl (by conv => lhs; whnf) q13 rfl) rfl rfl rfl rfl ?_
              refine mv (g_ofc rfl (by conv => lhs; whnf) q13 rfl) (by conv => lhs; whnf) rfl ?_
              refine bif_cases hr (fun q15 hr => ?_) (fun q15 hr => ?_)
              · refine fld (u := .one (.ptr 6 3)) (g_ofc rfl (by conv => lhs; whnf) q15 rfl) rfl rfl (by conv => lhs; whnf) rfl rfl ?_
                refine ldo (w := .one (.c (.sl (e22_10.f3.map rS_impl_Term)))) (g_ofc rfl (by conv => lhs; whnf) q15 rfl) rfl rfl (by conv => lhs; whnf) rfl rfl rfl ?_
                obtain ⟨e43_16, ke43_16, hr⟩ := bind_some hr
                refine ixa (f := rS_impl_Term) (row := [.int .i64 e43_16.f0, .int .i64 e43_16.f1, .str e43_16.f2, .sl (e43_16.f3.map rS_impl_Term)]) ke43_16 (g_ofc rfl (by conv => lhs; whnf) q15 rfl) rfl rfl (by conv => lhs; whnf) (by conv => lhs; whnf) (rS_impl_Term_eq _) rfl rfl ?_
                refine fld (u := .one (.cp [.int .i64 e43_16.f0, .int .i64 e43_16.f1, .str e43_16.f2, .sl (e43_16.f3.map rS_impl_Term)])) (g_ofc rfl (by conv => lhs; whnf) q15 rfl) rfl rfl (by conv => lhs; whnf) rfl rfl ?_
                refine ldc (w := .one (.c (.int .i64 e43_16.f0))) (g_ofc rfl (by conv => lhs; whnf) q15 rfl) rfl (by conv => lhs; whnf) rfl rfl ?_
                refine rd (.bool (!decide (e43_16.f0 = (3 : Int)))) (g_ofc rfl (by conv => lhs; whnf) q15 rfl) rfl rfl rfl rfl ?_
                refine pkc (g_ofc rfl (by conv => lhs; whnf) q13 rfl) (by conv => lhs; whnf) q15 (by conv => lhs; whnf) rfl ?_
                refine pkc rfl (by conv => lhs; whnf) q13 (by conv => lhs; whnf) rfl ?_
                refine step_nil ?_
                cases hr
                exact ⟨rfl, rfl, rfl, rfl, rfl, rfl, rfl⟩
              · refine sk (g_ofc rfl (by conv => lhs; whnf) q15 rfl) ?_
                refine sk (g_ofc rfl (by conv => lhs; whnf) q15 rfl) ?_
                refine sk (g_ofc rfl (by conv => lhs; whnf) q15 rfl) ?_
                refine sk (g_ofc rfl (by conv => lhs; whnf) q15 rfl) ?_
                refine sk (g_ofc rfl (by conv => lhs; whnf) q15 rfl) ?_
                refine sk (g_ofc rfl (by conv => lhs; whnf) q15 rfl) ?_
                refine pkc (g_ofc rfl (by conv => lhs; whnf) q13 rfl) (by conv => lhs; whnf) q15 (by conv => lhs; whnf) rfl ?_
                refine pkc rfl (by conv => lhs; whnf) q13 (by conv => lhs; whnf) rfl ?_
                refine step_nil ?_
                cases hr
                exact ⟨rfl, rfl, rfl, rfl, rfl, rfl, rfl⟩
        clear hr
        clear s1 s4 s5 s6 o1 o6
        intro x hM
        obtain ⟨s1, s4, s5, s6, s48, o1, o6⟩ := hM
        refine bif_cases h (fun q17 h => ?_) (fun q17 h => ?_)
        · refine c_ct (by rw [← q17]; exact s48) ?_
          refine c_reg (fun x => x.sl 2 = .one (.c (.sl ([].map rS_impl_Send))) ∧ x.sl 3 = .one (.c (.bool false)) ∧ x.ob 1 = some [.int .i64 t0_0, .int .i64 t0_1, .str t0_2, .sl (t0_3.map rS_impl_Term)] ∧ x.ob 6 = some [.int .i64 e22_10.f0, .int .i64 e22_10.f1, .str e22_10.f2, .sl (e22_10.f3.map rS_impl_Term)]) ?_ ?_
          · rw [← put_self s1, ← put_self s4, ← put_self s5, ← put_self s6, ← put_self s48, ← setO_self o1, ← setO_self o6]
            refine lit (L := ([] : List S_impl_Send)) (f := rS_impl_Send) rfl rfl rfl rfl rfl rfl rfl ?_
            refine asg rfl (by conv => lhs; whnf) rfl ?_
            refine asg rfl (by conv => lhs; whnf) rfl ?_
            refine step_nil ?_
            exact ⟨rfl, rfl, rfl, rfl⟩
          clear s1 s4 s5 s6 s48 o1 o6
          intro x hM
          obtain ⟨s2, s3, o1, o6⟩ := hM
          refine c_ret ?_
          cases h
          show _ ∧ _
          exact ⟨nofun, rfl, s2, s3⟩
        · refine c_cf (by rw [← q17]; exact s48) ?_
          refine c_skip ?_
          show vcC _ _ _ _ _ _ _
          obtain ⟨e53_18, ke53_18, h⟩ := bind_some h
          obtain ⟨c55_19, kc55_19, h⟩ := bind_some h
          obtain ⟨e58_20, ke58_20, h⟩ := bind_some h
          obtain ⟨c60_21, kc60_21, h⟩ := bind_some h
          obtain ⟨v63_22, kv63_22, h⟩ := bind_some h
          refine c_regl (fun x => x.sl 1 = .one (.ptr 1 0) ∧ x.sl 4 = .one (.c (.sl (v63_22.map rS_impl_Send))) ∧ x.sl 5 = .one (.c (.int .i64 v5_3)) ∧ x.ob 1 = some [.int .i64 t0_0, .int .i64 t0_1, .str t0_2, .sl (t0_3.map rS_impl_Term)] ∧ x.ob 6 = some [.int .i64 e22_10.f0, .int .i64 e22_10.f1, .str e22_10.f2, .sl (e22_10.f3.map rS_impl_Term)]) ?_ ?_
          · rw [← put_self s1, ← put_self s4, ← put_self s5, ← put_self s6, ← put_self s48, ← setO_self o1, ← setO_self o6]
            refine mv rfl (by conv => lhs; whnf) rfl ?_
            refine fld (u := .one (.ptr 6 3)) rfl rfl rfl (by conv => lhs; whnf) rfl rfl ?_
            refine ldo (w := .one (.c (.sl (e22_10.f3.map rS_impl_Term)))) rfl rfl rfl (by conv => lhs; whnf) rfl rfl rfl ?_
            refine ixa (f := rS_impl_Term) (row := [.int .i64 e53_18.f0, .int .i64 e53_18.f1, .str e53_18.f2, .sl (e53_18.f3.map rS_impl_Term)]) ke53_18 rfl rfl rfl (by conv => lhs; whnf) (by conv => lhs; whnf) (rS_impl_Term_eq _) rfl rfl ?_
            refine ldc (w := .one (.ag [.int .i64 e53_18.f0, .int .i64 e53_18.f1, .str e53_18.f2, .sl (e53_18.f3.map rS_impl_Term)])) rfl rfl (by conv => lhs; whnf) rfl rfl ?_
            refine cl0 (v' := .one (.ag [.int .i64 c55_19.1, .int .i64 c55_19.2.1, .str c55_19.2.2.1, .sl (c55_19.2.2.2.map rS_impl_Term)])) (big_spec_l2Copy kc55_19) rfl rfl rfl rfl rfl rfl rfl rfl rfl ?_
            refine fld (u := .one (.ptr 6 3)) rfl rfl rfl (by conv => lhs; whnf) rfl rfl ?_
            refine ldo (w := .one (.c (.sl (e22_10.f3.map rS_impl_Term)))) rfl rfl rfl (by conv => lhs; whnf) rfl rfl rfl ?_
            refine ixa (f := rS_impl_Term) (row := [.int .i64 e58_20.f0, .int .i64 e58_20.f1, .str e58_20.f2, .sl (e58_20.f3.map rS_impl_Term)]) ke58_20 rfl rfl rfl (by conv => lhs; whnf) (by conv => lhs; whnf) (rS_impl_Term_eq _) rfl rfl ?_
            refine ldc (w := .one (.ag [.int .i64 e58_20.f0, .int .i64 e58_20.f1, .str e58_20.f2, .sl (e58_20.f3.map rS_impl_Term)])) rfl rfl (by conv => lhs; whnf) rfl rfl ?_
            refine cl0 (v' := .one (.ag [.int .i64 c60_21.1, .int .i64 c60_21.2.1, .str c60_21.2.2.1, .sl (c60_21.2.2.2.map rS_impl_Term)])) (big_spec_l2Copy kc60_21) rfl rfl rfl rfl rfl rfl rfl rfl rfl ?_
            refine bld (rs := [.int .i64 c55_19.1, .int .i64 c55_19.2.1, .str c55_19.2.2.1, .sl (c55_19.2.2.2.map rS_impl_Term), .int .i64 c60_21.1, .int .i64 c60_21.2.1, .str c60_21.2.2.1, .sl (c60_21.2.2.2.map rS_impl_Term)]) rfl rfl rfl rfl rfl ?_
            refine lit (L := ([S_impl_Send.mk c55_19.1 c55_19.2.1 c55_19.2.2.1 c55_19.2.2.2 c60_21.1 c60_21.2.1 c60_21.2.2.1 c60_21.2.2.2] : List S_impl_Send)) (f := rS_impl_Send) rfl rfl rfl rfl rfl rfl rfl ?_
            refine apd (f := rS_impl_Send) kv63_22 rfl rfl rfl rfl (by conv => lhs; whnf) rfl rfl rfl (fun _ => rfl) (fun _ => rfl) rfl ?_
            refine asg rfl (by conv => lhs; whnf) rfl ?_
            refine step_nil ?_
            exact ⟨rfl, rfl, rfl, rfl, rfl⟩
          clear s1 s4 s5 s6 s48 o1 o6
          intro x hM
          obtain ⟨s1, s4, s5, o1, o6⟩ := hM
          show vcC _ _ _ _ _ _ _
          refine c_regl (fun x => x.sl 1 = .one (.ptr 1 0) ∧ x.sl 4 = .one (.c (.sl (v63_22.map rS_impl_Send))) ∧ x.sl 5 = .one (.c (.int .i64 (IntKind.wrap .i64 (v5_3 + (1 : Int))))) ∧ x.ob 1 = some [.int .i64 t0_0, .int .i64 t0_1, .str t0_2, .sl (t0_3.map rS_impl_Term)] ∧ x.ob 6 = some [.int .i64 e22_10.f0, .int .i64 e22_10.f1, .str e22_10.f2, .sl (e22_10.f3.map rS_impl_Term)]) ?_ ?_
          · rw [← put_self s1, ← put_self s4, ← put_self s5, ← setO_self o1, ← setO_self o6]
            refine mv rfl (by conv => lhs; whnf) rfl ?_
            refine rd (.int .i64 (IntKind.wrap .i64 (v5_3 + (1 : Int)))) rfl rfl rfl rfl rfl ?_
            refine asg rfl (by conv => lhs; whnf) rfl ?_
            refine step_nil ?_
            exact ⟨rfl, rfl, rfl, rfl, rfl⟩
          clear s1 s4 s5 o1 o6
          intro x hM
          obtain ⟨s1, s4, s5, o1, o6⟩ := hM
          cases h
          show _ ∧ _
          exact ⟨rfl, s1, s4, s5, o1⟩
      · refine c_cf (by rw [← q9]; exact s16) ?_
        refine c_exit ?_
        cases h
        show _ ∧ _
        exact ⟨nofun, rfl, s1, s4, s5, s16, o1⟩
    clear hq
    clear s1 s4 s5 o1
    intro e x hM
    rcases q23 with ⟨v2_4, v3_5⟩ | ⟨v4_6, v5_7, v16_8⟩
    · obtain ⟨rfl, s2, s3⟩ := hM
      cases h
      show _ ∧ _
      rw [← put_self s2, ← put_self s3]
      exact ⟨.inr rfl, _, rfl, rfl, rfl, rfl⟩
    · obtain ⟨rfl, s1, s4, s5, s16, o1⟩ := hM
      show vcC _ _ _ _ _ _ _
      refine c_reg (fun x => x.sl 2 = .one (.c (.sl (v4_6.map rS_impl_Send))) ∧ x.sl 3 = .one (.c (.bool true)) ∧ x.ob 1 = some [.int .i64 t0_0, .int .i64 t0_1, .str t0_2, .sl (t0_3.map rS_impl_Term)]) ?_ ?_
      · rw [← put_self s1, ← put_self s4, ← put_self s5, ← put_self s16, ← setO_self o1]
        refine mv rfl (by conv => lhs; whnf) rfl ?_
        refine asg rfl (by conv => lhs; whnf) rfl ?_
        refine asg rfl (by conv => lhs; whnf) rfl ?_
        refine step_nil ?_
        exact ⟨rfl, rfl, rfl⟩
      clear s1 s4 s5 s16 o1
      intro x hM
      obtain ⟨s2, s3, o1⟩ := hM
      refine c_ret ?_
      cases h
      show _ ∧ _
      rw [← put_self s2, ← put_self s3]
      exact ⟨.inr rfl, _, rfl, rfl, rfl, rfl⟩
def p_slices_EqualFunc_7600_b1 (n : Nat) (r_impl_SameTerm : Int → Int → (List UInt8) → (List S_impl_Term) → Int → Int → (List UInt8) → (List S_impl_Term) → Option (Bool)) (t0_0 : List S_impl_Term) (t1_0 : List S_impl_Term) : (Int) → Option ((Int) ⊕ ((Bool) ⊕ (Int × Bool)))
  | v17_2 => bif decide (v17_2 < (t0_0.length : Int)) then (ix t0_0 v17_2).bind fun e20_7 => (ix t1_0 v17_2).bind fun e24_8 => (r_impl_SameTerm e20_7.f0 e20_7.f1 e20_7.f2 e20_7.f3 e24_8.f0 e24_8.f1 e24_8.f2 e24_8.f3).bind fun c29_9 => bif !c29_9 then some (.inr (.inl false)) else some (.inl (IntKind.wrap .i64 (v17_2 + (1 : Int)))) else some (.inr (.inr (v17_2, (decide (v17_2 < (t0_0.length : Int))))))
def s_slices_EqualFunc_7600 (n : Nat) (r_impl_SameTerm : Int → Int → (List UInt8) → (List S_impl_Term) → Int → Int → (List UInt8) → (List S_impl_Term) → Option (Bool)) (r_slices_EqualFunc_7600 : (List S_impl_Term) → (List S_impl_Term) → Option (Bool)) (t0_0 : List S_impl_Term) (t1_0 : List S_impl_Term) : Option (Bool) :=
  bif !decide ((t0_0.length : Int) = (t1_0.length : Int)) then some false else (loopN (p_slices_EqualFunc_7600_b1 n r_impl_SameTerm t0_0 t1_0) n (0 : Int)).bind fun q => (match q with | .inl v6_3 => some v6_3 | .inr (v17_4, v18_5) => some true)
theorem step_slices_EqualFunc_7600 {n : Nat} {r_impl_SameTerm : Int → Int → (List UInt8) → (List S_impl_Term) → Int → Int → (List UInt8) → (List S_impl_Term) → Option (Bool)} (ih_impl_SameTerm : ∀ {t0_0 : Int} {t0_1 : Int} {t0_2 : List UInt8} {t0_3 : List S_impl_Term} {t1_0 : Int} {t1_1 : Int} {t1_2 : List UInt8} {t1_3 : List S_impl_Term} {r : Bool}, r_impl_SameTerm t0_0 t0_1 t0_2 t0_3 t1_0 t1_1 t1_2 t1_3 = some r → Big Try.prog τ An (.fn 23 [.one (.ag [.int .i64 t0_0, .int .i64 t0_1, .str t0_2, .sl (t0_3.map rS_impl_Term)]), .one (.ag [.int .i64 t1_0, .int .i64 t1_1, .str t1_2, .sl (t1_3.map rS_impl_Term)])] [] (.one (.c (.bool r))) none [] none)) {r_slices_EqualFunc_7600 : (List S_impl_Term) → (List S_impl_Term) → Option (Bool)} (ih_slices_EqualFunc_7600 : ∀ {t0_0 : List S_impl_Term} {t1_0 : List S_impl_Term} {r : Bool}, r_slices_EqualFunc_7600 t0_0 t1_0 = some r → Big Try.prog τ An (.fn 67 [.one (.c (.sl (t0_0.map rS_impl_Term))), .one (.c (.sl (t1_0.map rS_impl_Term))), .one (.fn 23 [])] [] (.one (.c (.bool r))) none [] none)) {t0_0 : List S_impl_Term} {t1_0 : List S_impl_Term} {r : Bool} (h : s_slices_EqualFunc_7600 n r_impl_SameTerm r_slices_EqualFunc_7600 t0_0 t1_0 = some r) : Big Try.prog τ An (.fn 67 [.one (.c (.sl (t0_0.map rS_impl_Term))), .one (.c (.sl (t1_0.map rS_impl_Term))), .one (.fn 23 [])] [] (.one (.c (.bool r))) none [] none) := by
  unfold s_slices_EqualFunc_7600 at h
  refine Big.of Try.func67 rfl rfl rfl rfl ?_
  have s0 : (DA [.one (.c (.sl (t0_0.map rS_impl_Term))), .one (.c (.sl (t1_0.map rS_impl_Term))), .one (.fn 23 [])] []).sl 0 = .one (.c (.sl (t0_0.map rS_impl_Term))) := rfl
  have s1 : (DA [.one (.c (.sl (t0_0.map rS_impl_Term))), .one (.c (.sl (t1_0.map rS_impl_Term))), .one (.fn 23 [])] []).sl 1 = .one (.c (.sl (t1_0.map rS_impl_Term))) := rfl
  have s2 : (DA [.one (.c (.sl (t0_0.map rS_impl_Term))), .one (.c (.sl (t1_0.map rS_impl_Term))), .one (.fn 23 [])] []).sl 2 = .one (.fn 23 []) := rfl
  generalize DA [.one (.c (.sl (t0_0.map rS_impl_Term))), .one (.c (.sl (t1_0.map rS_impl_Term))), .one (.fn 23 [])] [] = x at s0 s1 s2 ⊢
  refine c_reg (fun x => x.sl 0 = .one (.c (.sl (t0_0.map rS_impl_Term))) ∧ x.sl 1 = .one (.c (.sl (t1_0.map rS_impl_Term))) ∧ x.sl 2 = .one (.fn 23 [])) ?_ ?_
  · rw [← put_self s0, ← put_self s1, ← put_self s2]
    refine asg rfl (by conv => lhs; whnf) rfl ?_
    refine step_nil ?_
    exact ⟨rfl, rfl, rfl⟩
  clear s0 s1 s2
  intro x hM
  obtain ⟨s0, s1, s2⟩ := hM
  refine c_seq ?_
  refine c_reg (fun x => x.sl 0 = .one (.c (.sl (t0_0.map rS_impl_Term))) ∧ x.sl 1 = .one (.c (.sl (t1_0.map rS_impl_Term))) ∧ x.sl 2 = .one (.fn 23 []) ∧ x.sl 14 = .one (.c (.bool (!decide ((t0_0.length : Int) = (t1_0.length : Int)))))) ?_ ?_
  · rw [← put_self s0, ← put_self s1, ← put_self s2]
    refine mv rfl (by conv => lhs; whnf) rfl ?_
    refine ln rfl rfl (by conv => lhs; whnf) rfl ?_
    refine mv rfl (by conv => lhs; whnf) rfl ?_
    refine ln rfl rfl (by conv => lhs; whnf) rfl ?_
    refine rd (.bool (!decide ((t0_0.length : Int) = (t1_0.length : Int)))) rfl rfl rfl rfl rfl ?_
    refine step_nil ?_
    exact ⟨rfl, rfl, rfl, rfl⟩
  clear s0 s1 s2
  intro x hM
  obtain ⟨s0, s1, s2, s14⟩ := hM
  refine bif_cases h (fun q1 h => ?_) (fun q1 h => ?_)
  · refine c_ct (by rw [← q1]; exact s14) ?_
    refine c_reg (fun x => x.sl 6 = .one (.c (.bool false))) ?_ ?_
    · rw [← put_self s0, ← put_self s1, ← put_self s2, ← put_self s14]
      refine asg rfl (by conv => lhs; whnf) rfl ?_
      refine step_nil ?_
      exact rfl
    clear s0 s1 s2 s14
    intro x s6
    refine c_ret ?_
    cases h
    show _ ∧ _
    rw [← put_self s6]
    exact ⟨.inr rfl, _, rfl, rfl, rfl, rfl⟩
  · refine c_cf (by rw [← q1]; exact s14) ?_
    refine c_skip ?_
    show vcC _ _ _ _ _ _ _
    refine c_seq ?_
    refine c_reg (fun x => x.sl 1 = .one (.c (.sl (t1_0.map rS_impl_Term))) ∧ x.sl 2 = .one (.fn 23 []) ∧ x.sl 15 = .one (.c (.sl (t0_0.map rS_impl_Term))) ∧ x.sl 16 = .one (.c (.int .i64 (t0_0.length : Int))) ∧ x.sl 17 = .one (.c (.int .i64 0))) ?_ ?_
    · rw [← put_self s0, ← put_self s1, ← put_self s2, ← put_self s14]
      refine mv rfl (by conv => lhs; whnf) rfl ?_
      refine ln rfl rfl (by conv => lhs; whnf) rfl ?_
      refine mv rfl (by conv => lhs; whnf) rfl ?_
      refine step_nil ?_
      exact ⟨rfl, rfl, rfl, rfl, rfl⟩
    clear s0 s1 s2 s14
    intro x hM
    obtain ⟨s1, s2, s15, s16, s17⟩ := hM
    obtain ⟨q11, hq, h⟩ := bind_some h
    refine c_block ?_
    refine Wd.loopN (fun s x => match (generalizing := false) s with | v17_2 => x.sl 1 = .one (.c (.sl (t1_0.map rS_impl_Term))) ∧ x.sl 2 = .one (.fn 23 []) ∧ x.sl 15 = .one (.c (.sl (t0_0.map rS_impl_Term))) ∧ x.sl 16 = .one (.c (.int .i64 (t0_0.length : Int))) ∧ x.sl 17 = .one (.c (.int .i64 v17_2))) (fun q e x => match (generalizing := false) q with | .inl v6_3 => e = .r ∧ x.sl 6 = .one (.c (.bool v6_3)) | .inr (v17_4, v18_5) => e = .e 0 ∧ x.sl 1 = .one (.c (.sl (t1_0.map rS_impl_Term))) ∧ x.sl 2 = .one (.fn 23 []) ∧ x.sl 15 = .one (.c (.sl (t0_0.map rS_impl_Term))) ∧ x.sl 16 = .one (.c (.int .i64 (t0_0.length : Int))) ∧ x.sl 17 = .one (.c (.int .i64 v17_4)) ∧ x.sl 18 = .one (.c (.bool v18_5))) ?_ hq (⟨s1, s2, s15, s16, s17⟩) ?_
    · clear h hq
      clear s1 s2 s15 s16 s17
      intro v17_2 o x hR h
      obtain ⟨s1, s2, s15, s16, s17⟩ := hR
      unfold p_slices_EqualFunc_7600_b1 at h
      refine c_reg (fun x => x.sl 1 = .one (.c (.sl (t1_0.map rS_impl_Term))) ∧ x.sl 2 = .one (.fn 23 []) ∧ x.sl 15 = .one (.c (.sl (t0_0.map rS_impl_Term))) ∧ x.sl 16 = .one (.c (.int .i64 (t0_0.length : Int))) ∧ x.sl 17 = .one (.c (.int .i64 v17_2)) ∧ x.sl 18 = .one (.c (.bool (decide (v17_2 < (t0_0.length : Int)))))) ?_ ?_
      · rw [← put_self s1, ← put_self s2, ← put_self s15, ← put_self s16, ← put_self s17]
        refine rd (.bool (decide (v17_2 < (t0_0.length : Int)))) rfl rfl rfl rfl rfl ?_
        refine step_nil ?_
        exact ⟨rfl, rfl, rfl, rfl, rfl, rfl⟩
      clear s1 s2 s15 s16 s17
      intro x hM
      obtain ⟨s1, s2, s15, s16, s17, s18⟩ := hM
      refine c_seq ?_
      refine bif_cases h (fun q6 h => ?_) (fun q6 h => ?_)
      · refine c_ct (by rw [← q6]; exact s18) ?_
        refine c_skip ?_
        show vcC _ _ _ _ _ _ _
        refine c_seq ?_
        refine c_block ?_
        obtain ⟨e20_7, ke20_7, h⟩ := bind_some h
        refine c_reg (fun x => x.sl 1 = .one (.c (.sl (t1_0.map rS_impl_Term))) ∧ x.sl 2 = .one (.fn 23 []) ∧ x.sl 7 = .one (.c (.int .i64 v17_2)) ∧ x.sl 8 = .one (.ptr 8 0) ∧ x.sl 15 = .one (.c (.sl (t0_0.map rS_impl_Term))) ∧ x.sl 16 = .one (.c (.int .i64 (t0_0.length : Int))) ∧ x.sl 17 = .one (.c (.int .i64 v17_2)) ∧ x.ob 8 = some [.int .i64 e20_7.f0, .int .i64 e20_7.f1, .str e20_7.f2, .sl (e20_7.f3.map rS_impl_Term)]) ?_ ?_
        · rw [← put_self s1, ← put_self s2, ← put_self s15, ← put_self s16, ← put_self s17, ← put_self s18]
          refine mv rfl (by conv => lhs; whnf) rfl ?_
          refine ixa (f := rS_impl_Term) (row := [.int .i64 e20_7.f0, .int .i64 e20_7.f1, .str e20_7.f2, .sl (e20_7.f3.map rS_impl_Term)]) ke20_7 rfl rfl rfl (by conv => lhs; whnf) (by conv => lhs; whnf) (rS_impl_Term_eq _) rfl rfl ?_
          refine ldc (w := .one (.ag [.int .i64 e20_7.f0, .int .i64 e20_7.f1, .str e20_7.f2, .sl (e20_7.f3.map rS_impl_Term)])) rfl rfl (by conv => lhs; whnf) rfl rfl ?_
          refine alc (cs := [.int .i64 0, .int .i64 0, .str [], .sl ([].map rS_impl_Term)]) rfl rfl rfl rfl ?_
          refine asg rfl (by conv => lhs; whnf) rfl ?_
          refine sto (cs := [.int .i64 e20_7.f0, .int .i64 e20_7.f1, .str e20_7.f2, .sl (e20_7.f3.map rS_impl_Term)]) rfl rfl (by conv => lhs; whnf) rfl rfl rfl rfl ?_
          refine step_nil ?_
          exact ⟨rfl, rfl, rfl, rfl, rfl, rfl, rfl, rfl⟩
        clear s1 s2 s15 s16 s17 s18
        intro x hM
        obtain ⟨s1, s2, s7, s8, s15, s16, s17, o8⟩ := hM
        obtain ⟨e24_8, ke24_8, h⟩ := bind_some h
        refine c_reg (fun x => x.sl 1 = .one (.c (.sl (t1_0.map rS_impl_Term))) ∧ x.sl 2 = .one (.fn 23 []) ∧ x.sl 8 = .one (.ptr 8 0) ∧ x.sl 9 = .one (.ptr 9 0) ∧ x.sl 15 = .one (.c (.sl (t0_0.map rS_impl_Term))) ∧ x.sl 16 = .one (.c (.int .i64 (t0_0.length : Int))) ∧ x.sl 17 = .one (.c (.int .i64 v17_2)) ∧ x.ob 8 = some [.int .i64 e20_7.f0, .int .i64 e20_7.f1, .str e20_7.f2, .sl (e20_7.f3.map rS_impl_Term)] ∧ x.ob 9 = some [.int .i64 e24_8.f0, .int .i64 e24_8.f1, .str e24_8.f2, .sl (e24_8.f3.map rS_impl_Term)]) ?_ ?_
        · rw [← put_self s1, ← put_self s2, ← put_self s7, ← put_self s8, ← put_self s15, ← put_self s16, ← put_self s17, ← setO_self o8]
          refine mv rfl (by conv => lhs; whnf) rfl ?_
          refine mv rfl (by conv => lhs; whnf) rfl ?_
          refine ixa (f := rS_impl_Term) (row := [.int .i64 e24_8.f0, .int .i64 e24_8.f1, .str e24_8.f2, .sl (e24_8.f3.map rS_impl_Term)]) ke24_8 rfl rfl rfl (by conv => lhs; whnf) (by conv => lhs; whnf) (rS_impl_Term_eq _) rfl rfl ?_
          refine ldc (w := .one (.ag [.int .i64 e24_8.f0, .int .i64 e24_8.f1, .str e24_8.f2, .sl (e24_8.f3.map rS_impl_Term)])) rfl rfl (by conv => lhs; whnf) rfl rfl ?_
          refine alc (cs := [.int .i64 0, .int .i64 0, .str [], .sl ([].map rS_impl_Term)]) rfl rfl rfl rfl ?_
          refine sto (cs := [.int .i64 e24_8.f0, .int .i64 e24_8.f1, .str e24_8.f2, .sl (e24_8.f3.map rS_impl_Term)]) rfl rfl (by conv => lhs; whnf) rfl rfl rfl rfl ?_
          refine step_nil ?_
          exact ⟨rfl, rfl, rfl, rfl, rfl, rfl, rfl, rfl, rfl⟩
        clear s1 s2 s7 s8 s15 s16 s17 o8
        intro x hM
        obtain ⟨s1, s2, s8, s9, s15, s16, s17, o8, o9⟩ := hM
        obtain ⟨c29_9, kc29_9, h⟩ := bind_some h
        refine c_reg (fun x => x.sl 1 = .one (.c (.sl (t1_0.map rS_impl_Term))) ∧ x.sl 2 = .one (.fn 23 []) ∧ x.sl 15 = .one (.c (.sl (t0_0.map rS_impl_Term))) ∧ x.sl 16 = .one (.c (.int .i64 (t0_0.length : Int))) ∧ x.sl 17 = .one (.c (.int .i64 v17_2)) ∧ x.sl 30 = .one (.c (.bool (!c29_9))) ∧ x.ob 8 = some [.int .i64 e20_7.f0, .int .i64 e20_7.f1, .str e20_7.f2, .sl (e20_7.f3.map rS_impl_Term)] ∧ x.ob 9 = some [.int .i64 e24_8.f0, .int .i64 e24_8.f1, .str e24_8.f2, .sl (e24_8.f3.map rS_impl_Term)]) ?_ ?_
        · rw [← put_self s1, ← put_self s2, ← put_self s8, ← put_self s9, ← put_self s15, ← put_self s16, ← put_self s17, ← setO_self o8, ← setO_self o9]
          refine mv rfl (by conv => lhs; whnf) rfl ?_
          refine ldo (w := .one (.ag [.int .i64 e20_7.f0, .int .i64 e20_7.f1, .str e20_7.f2, .sl (e20_7.f3.map rS_impl_Term)])) rfl rfl rfl (by conv => lhs; whnf) rfl rfl rfl ?_
          refine ldo (w := .one (.ag [.int .i64 e24_8.f0, .int .i64 e24_8.f1, .str e24_8.f2, .sl (e24_8.f3.map rS_impl_Term)])) rfl rfl rfl (by conv => lhs; whnf) rfl rfl rfl ?_
          refine cl0 (v' := .one (.c (.bool c29_9))) (ih_impl_SameTerm kc29_9) rfl rfl rfl rfl rfl rfl rfl rfl rfl ?_
          refine rd (.bool (!c29_9)) rfl rfl rfl rfl rfl ?_
          refine step_nil ?_
          exact ⟨rfl, rfl, rfl, rfl, rfl, rfl, rfl, rfl⟩
        clear s1 s2 s8 s9 s15 s16 s17 o8 o9
        intro x hM
        obtain ⟨s1, s2, s15, s16, s17, s30, o8, o9⟩ := hM
        refine bif_cases h (fun q10 h => ?_) (fun q10 h => ?_)
        · refine c_ct (by rw [← q10]; exact s30) ?_
          refine c_reg (fun x => x.sl 6 = .one (.c (.bool false)) ∧ x.ob 8 = some [.int .i64 e20_7.f0, .int .i64 e20_7.f1, .str e20_7.f2, .sl (e20_7.f3.map rS_impl_Term)] ∧ x.ob 9 = some [.int .i64 e24_8.f0, .int .i64 e24_8.f1, .str e24_8.f2, .sl (e24_8.f3.map rS_impl_Term)]) ?_ ?_
          · rw [← put_self s1, ← put_self s2, ← put_self s15, ← put_self s16, ← put_self s17, ← put_self s30, ← setO_self o8, ← setO_self o9]
            refine asg rfl (by conv => lhs; whnf) rfl ?_
            refine step_nil ?_
            exact ⟨rfl, rfl, rfl⟩
          clear s1 s2 s15 s16 s17 s30 o8 o9
          intro x hM
          obtain ⟨s6, o8, o9⟩ := hM
          refine c_ret ?_
          cases h
          show _ ∧ _
          exact ⟨nofun, rfl, s6⟩
        · refine c_cf (by rw [← q10]; exact s30) ?_
          refine c_skip ?_
          show vcC _ _ _ _ _ _ _
          refine c_regl (fun x => x.sl 1 = .one (.c (.sl (t1_0.map rS_impl_Term))) ∧ x.sl 2 = .one (.fn 23 []) ∧ x.sl 15 = .one (.c (.sl (t0_0.map rS_impl_Term))) ∧ x.sl 16 = .one (.c (.int .i64 (t0_0.length : Int))) ∧ x.sl 17 = .one (.c (.int .i64 (IntKind.wrap .i64 (v17_2 + (1 : Int))))) ∧ x.ob 8 = some [.int .i64 e20_7.f0, .int .i64 e20_7.f1, .str e20_7.f2, .sl (e20_7.f3.map rS_impl_Term)] ∧ x.ob 9 = some [.int .i64 e24_8.f0, .int .i64 e24_8.f1, .str e24_8.f2, .sl (e24_8.f3.map rS_impl_Term)]) ?_ ?_
          · rw [← put_self s1, ← put_self s2, ← put_self s15, ← put_self s16, ← put_self s17, ← put_self s30, ← setO_self o8, ← setO_self o9]
            refine rd (.int .i64 (IntKind.wrap .i64 (v17_2 + (1 : Int)))) rfl rfl rfl rfl rfl ?_
            refine mv rfl (by conv => lhs; whnf) rfl ?_
            refine step_nil ?_
            exact ⟨rfl, rfl, rfl, rfl, rfl, rfl, rfl⟩
          clear s1 s2 s15 s16 s17 s30 o8 o9
          intro x hM
          obtain ⟨s1, s2, s15, s16, s17, o8, o9⟩ := hM
          cases h
          show _ ∧ _
          exact ⟨rfl, s1, s2, s15, s16, s17⟩
      · refine c_cf (by rw [← q6]; exact s18) ?_
        refine c_exit ?_
        cases h
        show _ ∧ _
        exact ⟨nofun, rfl, s1, s2, s15, s16, s17, s18⟩
    clear hq
    clear s1 s2 s15 s16 s17
    intro e x hM
    rcases q11 with v6_3 | ⟨v17_4, v18_5⟩
    · obtain ⟨rfl, s6⟩ := hM
      cases h
      show _ ∧ _
      rw [← put_self s6]
      exact ⟨.inr rfl, _, rfl, rfl, rfl, rfl⟩
    · obtain ⟨rfl, s1, s2, s15, s16, s17, s18⟩ := hM
      show vcC _ _ _ _ _ _ _
      refine c_reg (fun x => x.sl 6 = .one (.c (.bool true))) ?_ ?_
      · rw [← put_self s1, ← put_self s2, ← put_self s15, ← put_self s16, ← put_self s17, ← put_self s18]
        refine asg rfl (by conv => lhs; whnf) rfl ?_
        refine step_nil ?_
        exact rfl
      clear s1 s2 s15 s16 s17 s18
      intro x s6
      refine c_ret ?_
      cases h
      show _ ∧ _
      rw [← put_self s6]
      exact ⟨.inr rfl, _, rfl, rfl, rfl, rfl⟩
def s_impl_SameTerm (n : Nat) (r_impl_SameTerm : Int → Int → (List UInt8) → (List S_impl_Term) → Int → Int → (List UInt8) → (List S_impl_Term) → Option (Bool)) (r_slices_EqualFunc_7600 : (List S_impl_Term) → (List S_impl_Term) → Option (Bool)) (t0_0 : Int) (t0_1 : Int) (t0_2 : List UInt8) (t0_3 : List S_impl_Term) (t1_0 : Int) (t1_1 : Int) (t1_2 : List UInt8) (t1_3 : List S_impl_Term) : Option (Bool) :=
  (bif decide (t0_0 = t1_0) then bif decide (t0_1 = t1_1) then bif decide (t0_2 = t1_2) then (r_slices_EqualFunc_7600 t0_3 t1_3).bind fun c29_5 => some c29_5 else some false else some false else some false).bind fun v4_1 => some v4_1
theorem step_impl_SameTerm {n : Nat} {r_impl_SameTerm : Int → Int → (List UInt8) → (List S_impl_Term) → Int → Int → (List UInt8) → (List S_impl_Term) → Option (Bool)} (ih_impl_SameTerm : ∀ {t0_0 : Int} {t0_1 : Int} {t0_2 : List UInt8} {t0_3 : List S_impl_Term} {t1_0 : Int} {t1_1 : Int} {t1_2 : List UInt8} {t1_3 : List S_impl_Term} {r : Bool}, r_impl_SameTerm t0_0 t0_1 t0_2 t0_3 t1_0 t1_1 t1_2 t1_3 = some r → Big Try.prog τ An (.fn 23 [.one (.ag [.int .i64 t0_0, .int .i64 t0_1, .str t0_2, .sl (t0_3.map rS_impl_Term)]), .one (.ag [.int .i64 t1_0, .int .i64 t1_1, .str t1_2, .sl (t1_3.map rS_impl_Term)])] [] (.one (.c (.bool r))) none [] none)) {r_slices_EqualFunc_7600 : (List S_impl_Term) → (List S_impl_Term) → Option (Bool)} (ih_slices_EqualFunc_7600 : ∀ {t0_0 : List S_impl_Term} {t1_0 : List S_impl_Term} {r : Bool}, r_slices_EqualFunc_7600 t0_0 t1_0 = some r → Big Try.prog τ An (.fn 67 [.one (.c (.sl (t0_0.map rS_impl_Term))), .one (.c (.sl (t1_0.map rS_impl_Term))), .one (.fn 23 [])] [] (.one (.c (.bool r))) none [] none)) {t0_0 : Int} {t0_1 : Int} {t0_2 : List UInt8} {t0_3 : List S_impl_Term} {t1_0 : Int} {t1_1 : Int} {t1_2 : List UInt8} {t1_3 : List S_impl_Term} {r : Bool} (h : s_impl_SameTerm n r_impl_SameTerm r_slices_EqualFunc_7600 t0_0 t0_1 t0_2 t0_3 t1_0 t1_1 t1_2 t1_3 = some r) : Big Try.prog τ An (.fn 23 [.one (.ag [.int .i64 t0_0, .int .i64 t0_1, .str t0_2, .sl (t0_3.map rS_impl_Term)]), .one (.ag [.int .i64 t1_0, .int .i64 t1_1, .str t1_2, .sl (t1_3.map rS_impl_Term)])] [] (.one (.c (.bool r))) none [] none) := by
  unfold s_impl_SameTerm at h
  refine Big.of Try.func23 rfl rfl rfl rfl ?_
  have s0 : (DA [.one (.ag [.int .i64 t0_0, .int .i64 t0_1, .str t0_2, .sl (t0_3.map rS_impl_Term)]), .one (.ag [.int .i64 t1_0, .int .i64 t1_1, .str t1_2, .sl (t1_3.map rS_impl_Term)])] []).sl 0 = .one (.ag [.int .i64 t0_0, .int .i64 t0_1, .str t0_2, .sl (t0_3.map rS_impl_Term)]) := rfl
  have s1 : (DA [.one (.ag [.int .i64 t0_0, .int .i64 t0_1, .str t0_2, .sl (t0_3.map rS_impl_Term)]), .one (.ag [.int .i64 t1_0, .int .i64 t1_1, .str t1_2, .sl (t1_3.map rS_impl_Term)])] []).sl 1 = .one (.ag [.int .i64 t1_0, .int .i64 t1_1, .str t1_2, .sl (t1_3.map rS_impl_Term)]) := rfl
  generalize DA [.one (.ag [.int .i64 t0_0, .int .i64 t0_1, .str t0_2, .sl (t0_3.map rS_impl_Term)]), .one (.ag [.int .i64 t1_0, .int .i64 t1_1, .str t1_2, .sl (t1_3.map rS_impl_Term)])] [] = x at s0 s1 ⊢
  refine c_reg (fun x => x.sl 2 = .one (.ptr 2 0) ∧ x.sl 3 = .one (.ptr 3 0) ∧ x.ob 2 = some [.int .i64 t0_0, .int .i64 t0_1, .str t0_2, .sl (t0_3.map rS_impl_Term)] ∧ x.ob 3 = some [.int .i64 t1_0, .int .i64 t1_1, .str t1_2, .sl (t1_3.map rS_impl_Term)]) ?_ ?_
  · rw [← put_self s0, ← put_self s1]
    refine bx (xs := [.int .i64 t0_0, .int .i64 t0_1, .str t0_2, .sl (t0_3.map rS_impl_Term)]) rfl (by conv => lhs; whnf) rfl rfl ?_
    refine bx (xs := [.int .i64 t1_0, .int .i64 t1_1, .str t1_2, .sl (t1_3.map rS_impl_Term)]) rfl (by conv => lhs; whnf) rfl rfl ?_
    refine asg rfl (by conv => lhs; whnf) rfl ?_
    refine step_nil ?_
    exact ⟨rfl, rfl, rfl, rfl⟩
  clear s0 s1
  intro x hM
  obtain ⟨s2, s3, o2, o3⟩ := hM
  obtain ⟨v4_1, hr, h⟩ := bind_some h
  refine c_reg (fun x => x.sl 4 = .one (.c (.bool v4_1)) ∧ x.ob 2 = some [.int .i64 t0_0, .int .i64 t0_1, .str t0_2, .sl (t0_3.map rS_impl_Term)] ∧ x.ob 3 = some [.int .i64 t1_0, .int .i64 t1_1, .str t1_2, .sl (t1_3.map rS_impl_Term)]) ?_ ?_
  · clear h
    rw [← put_self s2, ← put_self s3, ← setO_self o2, ← setO_self o3]
    refine fld (u := .one (.ptr 2 0)) rfl rfl rfl (by conv => lhs; whnf) rfl rfl ?_
    refine ldo (w := .one (.c (.int .i64 t0_0))) rfl rfl rfl (by conv => lhs; whnf) rfl rfl rfl ?_
    refine fld (u := .one (.ptr 3 0)) rfl rfl rfl (by conv => lhs; whnf) rfl rfl ?_
    refine ldo (w := .one (.c (.int .i64 t1_0))) rfl rfl rfl (by conv => lhs; whnf) rfl rfl rfl ?_
    refine rd (.bool (decide (t0_0 = t1_0))) rfl rfl rfl rfl rfl ?_
    refine mv rfl (by conv => lhs; whnf) rfl ?_
    refine bif_cases hr (fun q2 hr => ?_) (fun q2 hr => ?_)
    · refine fld (u := .one (.ptr 2 1)) (g_ofc rfl (by conv => lhs; whnf) q2 rfl) rfl rfl (by conv => lhs; whnf) rfl rfl ?_
      refine ldo (w := .one (.c (.int .i64 t0_1))) (g_ofc rfl (by conv => lhs; whnf) q2 rfl) rfl rfl (by conv => lhs; whnf) rfl rfl rfl ?_
      refine fld (u := .one (.ptr 3 1)) (g_ofc rfl (by conv => lhs; whnf) q2 rfl) rfl rfl (by conv => lhs; whnf) rfl rfl ?_
      refine ldo (w := .one (.c (.int .i64 t1_1))) (g_ofc rfl (by conv => lhs; whnf) q2 rfl) rfl rfl (by conv => lhs; whnf) rfl rfl rfl ?_
      refine rd (.bool (decide (t0_1 = t1_1))) (g_ofc rfl (by conv => lhs; whnf) q2 rfl) rfl rfl rfl rfl ?_
      refine pkc rfl (by conv => lhs; whnf) q2 (by conv => lhs; whnf) rfl ?_
      refine mv rfl (by conv => lhs; whnf) rfl ?_
      refine bif_cases hr (fun q3 hr => ?_) (fun q3 hr => ?_)
      · refine fld (u := .one (.ptr 2 2)) (g_ofc rfl (by conv => lhs; whnf) q3 rfl) rfl rfl (by conv => lhs; whnf) rfl rfl ?_
        refine ldo (w := .one (.c (.str t0_2))) (g_ofc rfl (by conv => lhs; whnf) q3 rfl) rfl rfl (by conv => lhs; whnf) rfl rfl rfl ?_
        refine fld (u := .one (.ptr 3 2)) (g_ofc rfl (by conv => lhs; whnf) q3 rfl) rfl rfl (by conv => lhs; whnf) rfl rfl ?_
        refine ldo (w := .one (.c (.str t1_2))) (g_ofc rfl (by conv => lhs; whnf) q3 rfl) rfl rfl (by conv => lhs; whnf) rfl rfl rfl ?_
        refine rd (.bool (decide (t0_2 = t1_2))) (g_ofc rfl (by conv => lhs; whnf) q3 rfl) rfl rfl rfl rfl ?_
        refine pkc rfl (by conv => lhs; whnf) q3 (by conv => lhs; whnf) rfl ?_
        refine mv rfl (by conv => lhs; whnf) rfl ?_
        refine bif_cases hr (fun q4 hr => ?_) (fun q4 hr => ?_)
        · refine fld (u := .one (.ptr 2 3)) (g_ofc rfl (by conv => lhs; whnf) q4 rfl) rfl rfl (by conv => lhs; whnf) rfl rfl ?_
          refine ldo (w := .one (.c (.sl (t0_3.map rS_impl_Term)))) (g_ofc rfl (by conv => lhs; whnf) q4 rfl) rfl rfl (by conv => lhs; whnf) rfl rfl rfl ?_
          refine fld (u := .one (.ptr 3 3)) (g_ofc rfl (by conv => lhs; whnf) q4 rfl) rfl rfl (by conv => lhs; whnf) rfl rfl ?_
          refine ldo (w := .one (.c (.sl (t1_3.map rS_impl_Term)))) (g_ofc rfl (by conv => lhs; whnf) q4 rfl) rfl rfl (by conv => lhs; whnf) rfl rfl rfl ?_
          obtain ⟨c29_5, kc29_5, hr⟩ := bind_some hr
          refine cl0 (v' := .one (.c (.bool c29_5))) (ih_slices_EqualFunc_7600 kc29_5) (g_ofc rfl (by conv => lhs; whnf) q4 rfl) rfl rfl rfl rfl rfl rfl rfl rfl ?_
          refine pkc rfl (by conv => lhs; whnf) q4 (by conv => lhs; whnf) rfl ?_
          refine asg rfl (by conv => lhs; whnf) rfl ?_
          refine step_nil ?_
          cases hr
          exact ⟨rfl, rfl, rfl⟩
        · refine sk (g_ofc rfl (by conv => lhs; whnf) q4 rfl) ?_
          refine sk (g_ofc rfl (by conv => lhs; whnf) q4 rfl) ?_
          refine sk (g_ofc rfl (by conv => lhs; whnf) q4 rfl) ?_
          refine sk (g_ofc rfl (by conv => lhs; whnf) q4 rfl) ?_
          refine sk (g_ofc rfl (by conv => lhs; whnf) q4 rfl) ?_
          refine pkc rfl (by conv => lhs; whnf) q4 (by conv => lhs; whnf) rfl ?_
          refine asg rfl (by conv => lhs; whnf) rfl ?_
          refine step_nil ?_
          cases hr
          exact ⟨rfl, rfl, rfl⟩
      · refine sk (g_ofc rfl (by conv => lhs; whnf) q3 rfl) ?_
        refine sk (g_ofc rfl (by conv => lhs; whnf) q3 rfl) ?_
        refine sk (g_ofc rfl (by conv => lhs; whnf) q3 rfl) ?_
        refine sk (g_ofc rfl (by conv => lhs; whnf) q3 rfl) ?_
        refine sk (g_ofc rfl (by conv => lhs; whnf) q3 rfl) ?_
        refine pkc rfl (by conv => lhs; whnf) q3 (by conv => lhs; whnf) rfl ?_
        refine mv rfl (by conv => lhs; whnf) rfl ?_
        refine sk (g_ofc rfl (by conv => lhs; whnf) rfl rfl) ?_
        refine sk (g_ofc rfl (by conv => lhs; whnf) rfl rfl) ?_
        refine sk (g_ofc rfl (by conv => lhs; whnf) rfl rfl) ?_
        refine sk (g_ofc rfl (by conv => lhs; whnf) rfl rfl) ?_
        refine sk (g_ofc rfl (by conv => lhs; whnf) rfl rfl) ?_
        refine pkc rfl (by conv => lhs; whnf) rfl (by conv => lhs; whnf) rfl ?_
        refine asg rfl (by conv => lhs; whnf) rfl ?_
        refine step_nil ?_
        cases hr
        exact ⟨rfl, rfl, rfl⟩
    · refine sk (g_ofc rfl (by conv => lhs; whnf) q2 rfl) ?_
      refine sk (g_ofc rfl (by conv => lhs; whnf) q2 rfl) ?_
      refine sk (g_ofc rfl (by conv => lhs; whnf) q2 rfl) ?_
      refine sk (g_ofc rfl (by conv => lhs; whnf) q2 rfl) ?_
      refine sk (g_ofc rfl (by conv => lhs; whnf) q2 rfl) ?_
      refine pkc rfl (by conv => lhs; whnf) q2 (by conv => lhs; whnf) rfl ?_
      refine mv rfl (by conv => lhs; whnf) rfl ?_
      refine sk (g_ofc rfl (by conv => lhs; whnf) rfl rfl) ?_
      refine sk (g_ofc rfl (by conv => lhs; whnf) rfl rfl) ?_
      refine sk (g_ofc rfl (by conv => lhs; whnf) rfl rfl) ?_
      refine sk (g_ofc rfl (by conv => lhs; whnf) rfl rfl) ?_
      refine sk (g_ofc rfl (by conv => lhs; whnf) rfl rfl) ?_
      refine pkc rfl (by conv => lhs; whnf) rfl (by conv => lhs; whnf) rfl ?_
      refine mv rfl (by conv => lhs; whnf) rfl ?_
      refine sk (g_ofc rfl (by conv => lhs; whnf) rfl rfl) ?_
      refine sk (g_ofc rfl (by conv => lhs; whnf) rfl rfl) ?_
      refine sk (g_ofc rfl (by conv => lhs; whnf) rfl rfl) ?_
      refine sk (g_ofc rfl (by conv => lhs; whnf) rfl rfl) ?_
      refine sk (g_ofc rfl (by conv => lhs; whnf) rfl rfl) ?_
      refine pkc rfl (by conv => lhs; whnf) rfl (by conv => lhs; whnf) rfl ?_
      refine asg rfl (by conv => lhs; whnf) rfl ?_
      refine step_nil ?_
      cases hr
      exact ⟨rfl, rfl, rfl⟩
  clear hr
  clear s2 s3 o2 o3
  intro x hM
  obtain ⟨s4, o2, o3⟩ := hM
  refine c_ret ?_
  cases h
  show _ ∧ _
  rw [← put_self s4]
  exact ⟨.inr rfl, _, rfl, rfl, rfl, rfl⟩
def q_impl_SameTerm : Nat → (Int → Int → (List UInt8) → (List S_impl_Term) → Int → Int → (List UInt8) → (List S_impl_Term) → Option (Bool)) × ((List S_impl_Term) → (List S_impl_Term) → Option (Bool))
  | 0 => ((fun _ _ _ _ _ _ _ _ => none), (fun _ _ => none))
  | n + 1 => (s_impl_SameTerm n ((q_impl_SameTerm n).1) ((q_impl_SameTerm n).2), s_slices_EqualFunc_7600 n ((q_impl_SameTerm n).1) ((q_impl_SameTerm n).2))
def p_impl_SameTerm (n : Nat) : Int → Int → (List UInt8) → (List S_impl_Term) → Int → Int → (List UInt8) → (List S_impl_Term) → Option (Bool) := (q_impl_SameTerm n).1
def p_slices_EqualFunc_7600 (n : Nat) : (List S_impl_Term) → (List S_impl_Term) → Option (Bool) := (q_impl_SameTerm n).2
theorem bigs_impl_SameTerm : ∀ n : Nat, (∀ {t0_0 : Int} {t0_1 : Int} {t0_2 : List UInt8} {t0_3 : List S_impl_Term} {t1_0 : Int} {t1_1 : Int} {t1_2 : List UInt8} {t1_3 : List S_impl_Term} {r : Bool}, p_impl_SameTerm n t0_0 t0_1 t0_2 t0_3 t1_0 t1_1 t1_2 t1_3 = some r → Big Try.prog τ An (.fn 23 [.one (.ag [.int .i64 t0_0, .int .i64 t0_1, .str t0_2, .sl (t0_3.map rS_impl_Term)]), .one (.ag [.int .i64 t1_0, .int .i64 t1_1, .str t1_2, .sl (t1_3.map rS_impl_Term)])] [] (.one (.c (.bool r))) none [] none)) ∧ (∀ {t0_0 : List S_impl_Term} {t1_0 : List S_impl_Term} {r : Bool}, p_slices_EqualFunc_7600 n t0_0 t1_0 = some r → Big Try.prog τ An (.fn 67 [.one (.c (.sl (t0_0.map rS_impl_Term))), .one (.c (.sl (t1_0.map rS_impl_Term))), .one (.fn 23 [])] [] (.one (.c (.bool r))) none [] none)) := by
  intro n
  induction n with
  | zero => exact ⟨(fun h => nomatch h), (fun h => nomatch h)⟩
  | succ n ih => exact ⟨(fun h => step_impl_SameTerm (n := n) (ih.1) (ih.2) h), (fun h => step_slices_EqualFunc_7600 (n := n) (ih.1) (ih.2) h)⟩
theorem big_impl_SameTerm {n : Nat} {t0_0 : Int} {t0_1 : Int} {t0_2 : List UInt8} {t0_3 : List S_impl_Term} {t1_0 : Int} {t1_1 : Int} {t1_2 : List UInt8} {t1_3 : List S_impl_Term} {r : Bool} (h : p_impl_SameTerm n t0_0 t0_1 t0_2 t0_3 t1_0 t1_1 t1_2 t1_3 = some r) : Big Try.prog τ An (.fn 23 [.one (.ag [.int .i64 t0_0, .int .i64 t0_1, .str t0_2, .sl (t0_3.map rS_impl_Term)]), .one (.ag [.int .i64 t1_0, .int .i64 t1_1, .str t1_2, .sl (t1_3.map rS_impl_Term)])] [] (.one (.c (.bool r))) none [] none) := (bigs_impl_SameTerm n).1 h
theorem big_slices_EqualFunc_7600 {n : Nat} {t0_0 : List S_impl_Term} {t1_0 : List S_impl_Term} {r : Bool} (h : p_slices_EqualFunc_7600 n t0_0 t1_0 = some r) : Big Try.prog τ An (.fn 67 [.one (.c (.sl (t0_0.map rS_impl_Term))), .one (.c (.sl (t1_0.map rS_impl_Term))), .one (.fn 23 [])] [] (.one (.c (.bool r))) none [] none) := (bigs_impl_SameTerm n).2 h
theorem p_impl_SameTerm_succ (n : Nat) : p_impl_SameTerm (n + 1) = s_impl_SameTerm n (p_impl_SameTerm n) (p_slices_EqualFunc_7600 n) := rfl
theorem p_slices_EqualFunc_7600_succ (n : Nat) : p_slices_EqualFunc_7600 (n + 1) = s_slices_EqualFunc_7600 n (p_impl_SameTerm n) (p_slices_EqualFunc_7600 n) := rfl
def p_laws_FnSends_b1 (n : Nat) (c12_3 : Int × Int × (List UInt8) × (List S_impl_Term)) (c15_4 : (List S_impl_Send) × Bool) : (Int) → Option ((Int) ⊕ ((Bool) ⊕ (Int × Bool)))
  | v8_11 => bif decide (v8_11 < (c15_4.1.length : Int)) then (ix c12_3.2.2.2 v8_11).bind fun e47_16 => (ix c15_4.1 v8_11).bind fun e51_17 => (ix c15_4.1 v8_11).bind fun e56_18 => (p_impl_SameTerm n e47_16.f0 e47_16.f1 e47_16.f2 e47_16.f3 (4 : Int) (0 : Int) ([] : List UInt8) ([S_impl_Term.mk e51_17.f0 e51_17.f1 e51_17.f2 e51_17.f3, S_impl_Term.mk e56_18.f4 e56_18.f5 e56_18.f6 e56_18.f7] : List S_impl_Term)).bind fun c61_19 => bif !c61_19 then some (.inr (.inl false)) else some (.inl (IntKind.wrap .i64 (v8_11 + (1 : Int)))) else some (.inr (.inr (v8_11, (decide (v8_11 < (c15_4.1.length : Int))))))
def p_laws_FnSends (n : Nat) (t0_0 : List Int) : Option (Bool) :=
  (p_laws_big n t0_0).bind fun c10_1 => bif c10_1 then some true else (p_spec_DrawSendsOf n t0_0).bind fun c12_3 => (p_impl_SendsOf n c12_3.1 c12_3.2.1 c12_3.2.2.1 c12_3.2.2.2).bind fun c15_4 => (p_spec_SendsOf n c12_3.1 c12_3.2.1 c12_3.2.2.1 c12_3.2.2.2).bind fun c20_5 => (bif !(c15_4.2 == c20_5.2) then some true else some (!c15_4.2)).bind fun v29_6 => bif v29_6 then (bif (c15_4.2 == c20_5.2) then some (decide ((c15_4.1.length : Int) = (0 : Int))) else some false).bind fun v2_9 => some v2_9 else (loopN (p_laws_FnSends_b1 n c12_3 c15_4) n (0 : Int)).bind fun q => (match q with | .inl v2_12 => some v2_12 | .inr (v8_13, v41_14) => (bif decide ((c15_4.1.length : Int) = (c12_3.2.2.2.length : Int)) then some (decide (c12_3.1 = (5 : Int))) else some false).bind fun v2_22 => some v2_22)
theorem big_laws_FnSends {n : Nat} {t0_0 : List Int} {r : Bool} (h : p_laws_FnSends n t0_0 = some r) : Big Try.prog τ An (.fn 5 [.one (.c (.sl (t0_0.map rI_u8)))] [] (.one (.c (.bool r))) none [] none) := by
  unfold p_laws_FnSends at h
  refine Big.of Try.func5 rfl rfl rfl rfl ?_
  have s0 : (DA [.one (.c (.sl (t0_0.map rI_u8)))] []).sl 0 = .one (.c (.sl (t0_0.map rI_u8))) := rfl
  generalize DA [.one (.c (.sl (t0_0.map rI_u8)))] [] = x at s0 ⊢
  refine c_reg (fun x => x.sl 0 = .one (.c (.sl (t0_0.map rI_u8)))) ?_ ?_
  · rw [← put_self s0]
    refine asg rfl (by conv => lhs; whnf) rfl ?_
    refine step_nil ?_
    exact rfl
  clear s0
  intro x s0
  refine c_seq ?_
  obtain ⟨c10_1, kc10_1, h⟩ := bind_some h
  refine c_reg (fun x => x.sl 0 = .one (.c (.sl (t0_0.map rI_u8))) ∧ x.sl 10 = .one (.c (.bool c10_1))) ?_ ?_
  · rw [← put_self s0]
    refine mv rfl (by conv => lhs; whnf) rfl ?_
    refine cl0 (v' := .one (.c (.bool c10_1))) (big_laws_big kc10_1) rfl rfl rfl rfl rfl rfl rfl rfl rfl ?_
    refine step_nil ?_
    exact ⟨rfl, rfl⟩
  clear s0
  intro x hM
  obtain ⟨s0, s10⟩ := hM
  refine bif_cases h (fun q2 h => ?_) (fun q2 h => ?_)
  · refine c_ct (by rw [← q2]; exact s10) ?_
    refine c_reg (fun x => x.sl 2 = .one (.c (.bool true))) ?_ ?_
    · rw [← put_self s0, ← put_self s10]
      refine asg rfl (by conv => lhs; whnf) rfl ?_
      refine step_nil ?_
      exact rfl
    clear s0 s10
    intro x s2
    refine c_ret ?_
    cases h
    show _ ∧ _
    rw [← put_self s2]
    exact ⟨.inr rfl, _, rfl, rfl, rfl, rfl⟩
  · refine c_cf (by rw [← q2]; exact s10) ?_
    refine c_skip ?_
    show vcC _ _ _ _ _ _ _
    obtain ⟨c12_3, kc12_3, h⟩ := bind_some h
    refine c_reg (fun x => x.sl 3 = .one (.ptr 3 0) ∧ x.ob 3 = some [.int .i64 c12_3.1, .int .i64 c12_3.2.1, .str c12_3.2.2.1, .sl (c12_3.2.2.2.map rS_impl_Term)]) ?_ ?_
    · rw [← put_self s0, ← put_self s10]
      refine mv rfl (by conv => lhs; whnf) rfl ?_
      refine cl0 (v' := .one (.ag [.int .i64 c12_3.1, .int .i64 c12_3.2.1, .str c12_3.2.2.1, .sl (c12_3.2.2.2.map rS_impl_Term)])) (big_spec_DrawSendsOf kc12_3) rfl rfl rfl rfl rfl rfl rfl rfl rfl ?_
      refine alc (cs := [.int .i64 0, .int .i64 0, .str [], .sl ([].map rS_impl_Term)]) rfl rfl rfl rfl ?_
      refine sto (cs := [.int .i64 c12_3.1, .int .i64 c12_3.2.1, .str c12_3.2.2.1, .sl (c12_3.2.2.2.map rS_impl_Term)]) rfl rfl (by conv => lhs; whnf) rfl rfl rfl rfl ?_
      refine step_nil ?_
      exact ⟨rfl, rfl⟩
    clear s0 s10
    intro x hM
    obtain ⟨s3, o3⟩ := hM
    obtain ⟨c15_4, kc15_4, h⟩ := bind_some h
    refine c_reg (fun x => x.sl 3 = .one (.ptr 3 0) ∧ x.sl 4 = .one (.c (.sl (c15_4.1.map rS_impl_Send))) ∧ x.sl 5 = .one (.c (.bool c15_4.2)) ∧ x.ob 3 = some [.int .i64 c12_3.1, .int .i64 c12_3.2.1, .str c12_3.2.2.1, .sl (c12_3.2.2.2.map rS_impl_Term)]) ?_ ?_
    · rw [← put_self s3, ← setO_self o3]
      refine ldo (w := .one (.ag [.int .i64 c12_3.1, .int .i64 c12_3.2.1, .str c12_3.2.2.1, .sl (c12_3.2.2.2.map rS_impl_Term)])) rfl rfl rfl (by conv => lhs; whnf) rfl rfl rfl ?_
      refine cl0 (v' := .tup [.c (.sl (c15_4.1.map rS_impl_Send)), .c (.bool c15_4.2)]) (big_impl_SendsOf kc15_4) rfl rfl rfl rfl rfl rfl rfl rfl rfl ?_
      refine mv rfl (by conv => lhs; whnf) rfl ?_
      refine ext (w := .c (.sl (c15_4.1.map rS_impl_Send))) rfl (by conv => lhs; whnf) rfl rfl ?_
      refine ext (w := .c (.bool c15_4.2)) rfl (by conv => lhs; whnf) rfl rfl ?_
      refine asg rfl (by conv => lhs; whnf) rfl ?_
      refine asg rfl (by conv => lhs; whnf) rfl ?_
      refine step_nil ?_
      exact ⟨rfl, rfl, rfl, rfl⟩
    clear s3 o3
    intro x hM
    obtain ⟨s3, s4, s5, o3⟩ := hM
    obtain ⟨c20_5, kc20_5, h⟩ := bind_some h
    refine c_reg (fun x => x.sl 3 = .one (.ptr 3 0) ∧ x.sl 4 = .one (.c (.sl (c15_4.1.map rS_impl_Send))) ∧ x.sl 5 = .one (.c (.bool c15_4.2)) ∧ x.sl 7 = .one (.c (.bool c20_5.2)) ∧ x.ob 3 = some [.int .i64 c12_3.1, .int .i64 c12_3.2.1, .str c12_3.2.2.1, .sl (c12_3.2.2.2.map rS_impl_Term)]) ?_ ?_
    · rw [← put_self s3, ← put_self s4, ← put_self s5, ← setO_self o3]
      refine ldo (w := .one (.ag [.int .i64 c12_3.1, .int .i64 c12_3.2.1, .str c12_3.2.2.1, .sl (c12_3.2.2.2.map rS_impl_Term)])) rfl rfl rfl (by conv => lhs; whnf) rfl rfl rfl ?_
      refine cl0 (v' := .tup [.c (.sl (c20_5.1.map rS_impl_Send)), .c (.bool c20_5.2)]) (big_spec_SendsOf kc20_5) rfl rfl rfl rfl rfl rfl rfl rfl rfl ?_
      refine mv rfl (by conv => lhs; whnf) rfl ?_
      refine ext (w := .c (.sl (c20_5.1.map rS_impl_Send))) rfl (by conv => lhs; whnf) rfl rfl ?_
      refine ext (w := .c (.bool c20_5.2)) rfl (by conv => lhs; whnf) rfl rfl ?_
      refine asg rfl (by conv => lhs; whnf) rfl ?_
      refine asg rfl (by conv => lhs; whnf) rfl ?_
      refine step_nil ?_
      exact ⟨rfl, rfl, rfl, rfl, rfl⟩
    clear s3 s4 s5 o3
    intro x hM
    obtain ⟨s3, s4, s5, s7, o3⟩ := hM
    refine c_seq ?_
    obtain ⟨v29_6, hr, h⟩ := bind_some h
    refine c_reg (fun x => x.sl 3 = .one (.ptr 3 0) ∧ x.sl 4 = .one (.c (.sl (c15_4.1.map rS_impl_Send))) ∧ x.sl 5 = .one (.c (.bool c15_4.2)) ∧ x.sl 7 = .one (.c (.bool c20_5.2)) ∧ x.sl 29 = .one (.c (.bool v29_6)) ∧ x.ob 3 = some [.int .i64 c12_3.1, .int .i64 c12_3.2.1, .str c12_3.2.2.1, .sl (c12_3.2.2.2.map rS_impl_Term)]) ?_ ?_
    · clear h
      rw [← put_self s3, ← put_self s4, ← put_self s5, ← put_self s7, ← setO_self o3]
      refine mv rfl (by conv => lhs; whnf) rfl ?_
      refine mv rfl (by conv => lhs; whnf) rfl ?_
      refine rd (.bool (!(c15_4.2 == c20_5.2))) rfl rfl rfl rfl rfl ?_
      refine mv rfl (by conv => lhs; whnf) rfl ?_
      refine bif_cases hr (fun q7 hr => ?_) (fun q7 hr => ?_)
      · refine sk (g_ofc rfl (by conv => lhs; whnf) q7 rfl) ?_
        refine sk (g_ofc rfl (by conv => lhs; whnf) q7 rfl) ?_
        refine pkc rfl (by conv => lhs; whnf) q7 (by conv => lhs; whnf) rfl ?_
        refine step_nil ?_
        cases hr
        exact ⟨rfl, rfl, rfl, rfl, rfl, rfl⟩
      · refine mv (g_ofc rfl (by conv => lhs; whnf) q7 rfl) (by conv => lhs; whnf) rfl ?_
        refine rd (.bool (!c15_4.2)) (g_ofc rfl (by conv => lhs; whnf) q7 rfl) rfl rfl rfl rfl ?_
        refine pkc rfl (by conv => lhs; whnf) q7 (by conv => lhs; whnf) rfl ?_
        refine step_nil ?_
        cases hr
        exact ⟨rfl, rfl, rfl, rfl, rfl, rfl⟩
    clear hr
    clear s3 s4 s5 s7 o3
    intro x hM
    obtain ⟨s3, s4, s5, s7, s29, o3⟩ := hM
    refine bif_cases h (fun q8 h => ?_) (fun q8 h => ?_)
    · refine c_ct (by rw [← q8]; exact s29) ?_
      obtain ⟨v2_9, hr, h⟩ := bind_some h
      refine c_reg (fun x => x.sl 2 = .one (.c (.bool v2_9)) ∧ x.ob 3 = some [.int .i64 c12_3.1, .int .i64 c12_3.2.1, .str c12_3.2.2.1, .sl (c12_3.2.2.2.map rS_impl_Term)]) ?_ ?_
      · clear h
        rw [← put_self s3, ← put_self s4, ← put_self s5, ← put_self s7, ← put_self s29, ← setO_self o3]
        refine mv rfl (by conv => lhs; whnf) rfl ?_
        refine mv rfl (by conv => lhs; whnf) rfl ?_
        refine rd (.bool (c15_4.2 == c20_5.2)) rfl rfl rfl rfl rfl ?_
        refine mv rfl (by conv => lhs; whnf) rfl ?_
        refine bif_cases hr (fun q10 hr => ?_) (fun q10 hr => ?_)
        · refine mv (g_ofc rfl (by conv => lhs; whnf) q10 rfl) (by conv => lhs; whnf) rfl ?_
          refine ln (g_ofc rfl (by conv => lhs; whnf) q10 rfl) rfl (by conv => lhs; whnf) rfl ?_
          refine rd (.bool (decide ((c15_4.1.length : Int) = (0 : Int)))) (g_ofc rfl (by conv => lhs; whnf) q10 rfl) rfl rfl rfl rfl ?_
          refine pkc rfl (by conv => lhs; whnf) q10 (by conv => lhs; whnf) rfl ?_
          refine asg rfl (by conv => lhs; whnf) rfl ?_
          refine step_nil ?_
          cases hr
          exact ⟨rfl, rfl⟩
        · refine sk (g_ofc rfl (by conv => lhs; whnf) q10 rfl) ?_
          refine sk (g_ofc rfl (by conv => lhs; whnf) q10 rfl) ?_
          refine sk (g_ofc rfl (by conv => lhs; whnf) q10 rfl) ?_
          refine pkc rfl (by conv => lhs; whnf) q10 (by conv => lhs; whnf) rfl ?_
          refine asg rfl (by conv => lhs; whnf) rfl ?_
          refine step_nil ?_
          cases hr
          exact ⟨rfl, rfl⟩
      clear hr
      clear s3 s4 s5 s7 s29 o3
      intro x hM
      obtain ⟨s2, o3⟩ := hM
      refine c_ret ?_
      cases h
      show _ ∧ _
      rw [← put_self s2]
      exact ⟨.inr rfl, _, rfl, rfl, rfl, rfl⟩
    · refine c_cf (by rw [← q8]; exact s29) ?_
      refine c_skip ?_
      show vcC _ _ _ _ _ _ _
      refine c_seq ?_
      refine c_reg (fun x => x.sl 3 = .one (.ptr 3 0) ∧ x.sl 4 = .one (.c (.sl (c15_4.1.map rS_impl_Send))) ∧ x.sl 8 = .one (.c (.int .i64 0)) ∧ x.ob 3 = some [.int .i64 c12_3.1, .int .i64 c12_3.2.1, .str c12_3.2.2.1, .sl (c12_3.2.2.2.map rS_impl_Term)]) ?_ ?_
      · rw [← put_self s3, ← put_self s4, ← put_self s5, ← put_self s7, ← put_self s29, ← setO_self o3]
        refine asg rfl (by conv => lhs; whnf) rfl ?_
        refine step_nil ?_
        exact ⟨rfl, rfl, rfl, rfl⟩
      clear s3 s4 s5 s7 s29 o3
      intro x hM
      obtain ⟨s3, s4, s8, o3⟩ := hM
      obtain ⟨q21, hq, h⟩ := bind_some h
      refine c_block ?_
      refine Wd.loopN (fun s x => match (generalizing := false) s with | v8_11 => x.sl 3 = .one (.ptr 3 0) ∧ x.sl 4 = .one (.c (.sl (c15_4.1.map rS_impl_Send))) ∧ x.sl 8 = .one (.c (.int .i64 v8_11)) ∧ x.ob 3 = some [.int .i64 c12_3.1, .int .i64 c12_3.2.1, .str c12_3.2.2.1, .sl (c12_3.2.2.2.map rS_impl_Term)]) (fun q e x => match (generalizing := false) q with | .inl v2_12 => e = .r ∧ x.sl 2 = .one (.c (.bool v2_12)) | .inr (v8_13, v41_14) => e = .e 0 ∧ x.sl 3 = .one (.ptr 3 0) ∧ x.sl 4 = .one (.c (.sl (c15_4.1.map rS_impl_Send))) ∧ x.sl 8 = .one (.c (.int .i64 v8_13)) ∧ x.sl 41 = .one (.c (.bool v41_14)) ∧ x.ob 3 = some [.int .i64 c12_3.1, .int .i64 c12_3.2.1, .str c12_3.2.2.1, .sl (c12_3.2.2.2.map rS_impl_Term)]) ?_ hq (⟨s3, s4, s8, o3⟩) ?_
      · clear h hq
        clear s3 s4 s8 o3
        intro v8_11 o x hR h
        obtain ⟨s3, s4, s8, o3⟩ := hR
        unfold p_laws_FnSends_b1 at h
        refine c_seq ?_
        refine c_reg (fun x => x.sl 3 = .one (.ptr 3 0) ∧ x.sl 4 = .one (.c (.sl (c15_4.1.map rS_impl_Send))) ∧ x.sl 8 = .one (.c (.int .i64 v8_11)) ∧ x.sl 41 = .one (.c (.bool (decide (v8_11 < (c15_4.1.length : Int))))) ∧ x.ob 3 = some [.int .i64 c12_3.1, .int .i64 c12_3.2.1, .str c12_3.2.2.1, .sl (c12_3.2.2.2.map rS_impl_Term)]) ?_ ?_
        · rw [← put_self s3, ← put_self s4, ← put_self s8, ← setO_self o3]
          refine mv rfl (by conv => lhs; whnf) rfl ?_
          refine mv rfl (by conv => lhs; whnf) rfl ?_
          refine ln rfl rfl (by conv => lhs; whnf) rfl ?_
          refine rd (.bool (decide (v8_11 < (c15_4.1.length : Int)))) rfl rfl rfl rfl rfl ?_
          refine step_nil ?_
          exact ⟨rfl, rfl, rfl, rfl, rfl⟩
        clear s3 s4 s8 o3
        intro x hM
        obtain ⟨s3, s4, s8, s41, o3⟩ := hM
        refine bif_cases h (fun q15 h => ?_) (fun q15 h => ?_)
        · refine c_ct (by rw [← q15]; exact s41) ?_
          refine c_skip ?_
          show vcC _ _ _ _ _ _ _
          refine c_seq ?_
          refine c_block ?_
          obtain ⟨e47_16, ke47_16, h⟩ := bind_some h
          obtain ⟨e51_17, ke51_17, h⟩ := bind_some h
          obtain ⟨e56_18, ke56_18, h⟩ := bind_some h
          obtain ⟨c61_19, kc61_19, h⟩ := bind_some h
          refine c_reg (fun x => x.sl 3 = .one (.ptr 3 0) ∧ x.sl 4 = .one (.c (.sl (c15_4.1.map rS_impl_Send))) ∧ x.sl 8 = .one (.c (.int .i64 v8_11)) ∧ x.sl 62 = .one (.c (.bool (!c61_19))) ∧ x.ob 3 = some [.int .i64 c12_3.1, .int .i64 c12_3.2.1, .str c12_3.2.2.1, .sl (c12_3.2.2.2.map rS_impl_Term)]) ?_ ?_
          · rw [← put_self s3, ← put_self s4, ← put_self s8, ← put_self s41, ← setO_self o3]
            refine fld (u := .one (.ptr 3 3)) rfl rfl rfl (by conv => lhs; whnf) rfl rfl ?_
            refine ldo (w := .one (.c (.sl (c12_3.2.2.2.map rS_impl_Term)))) rfl rfl rfl (by conv => lhs; whnf) rfl rfl rfl ?_
            refine mv rfl (by conv => lhs; whnf) rfl ?_
            refine ixa (f := rS_impl_Term) (row := [.int .i64 e47_16.f0, .int .i64 e47_16.f1, .str e47_16.f2, .sl (e47_16.f3.map rS_impl_Term)]) ke47_16 rfl rfl rfl (by conv => lhs; whnf) (by conv => lhs; whnf) (rS_impl_Term_eq _) rfl rfl ?_
            refine ldc (w := .one (.ag [.int .i64 e47_16.f0, .int .i64 e47_16.f1, .str e47_16.f2, .sl (e47_16.f3.map rS_impl_Term)])) rfl rfl (by conv => lhs; whnf) rfl rfl ?_
            refine mv rfl (by conv => lhs; whnf) rfl ?_
            refine mv rfl (by conv => lhs; whnf) rfl ?_
            refine ixa (f := rS_impl_Send) (row := [.int .i64 e51_17.f0, .int .i64 e51_17.f1, .str e51_17.f2, .sl (e51_17.f3.map rS_impl_Term), .int .i64 e51_17.f4, .int .i64 e51_17.f5, .str e51_17.f6, .sl (e51_17.f7.map rS_impl_Term)]) ke51_17 rfl rfl rfl (by conv => lhs; whnf) (by conv => lhs; whnf) (rS_impl_Send_eq _) rfl rfl ?_
            refine fld (u := .one (.cp [.int .i64 e51_17.f0, .int .i64 e51_17.f1, .str e51_17.f2, .sl (e51_17.f3.map rS_impl_Term), .int .i64 e51_17.f4, .int .i64 e51_17.f5, .str e51_17.f6, .sl (e51_17.f7.map rS_impl_Term)])) rfl rfl rfl (by conv => lhs; whnf) rfl rfl ?_
            refine ldc (w := .one (.ag [.int .i64 e51_17.f0, .int .i64 e51_17.f1, .str e51_17.f2, .sl (e51_17.f3.map rS_impl_Term)])) rfl rfl (by conv => lhs; whnf) rfl rfl ?_
            refine mv rfl (by conv => lhs; whnf) rfl ?_
            refine mv rfl (by conv => lhs; whnf) rfl ?_
            refine ixa (f := rS_impl_Send) (row := [.int .i64 e56_18.f0, .int .i64 e56_18.f1, .str e56_18.f2, .sl (e56_18.f3.map rS_impl_Term), .int .i64 e56_18.f4, .int .i64 e56_18.f5, .str e56_18.f6, .sl (e56_18.f7.map rS_impl_Term)]) ke56_18 rfl rfl rfl (by conv => lhs; whnf) (by conv => lhs; whnf) (rS_impl_Send_eq _) rfl rfl ?_
            refine fld (u := .one (.cp [.int .i64 e56_18.f4, .int .i64 e56_18.f5, .str e56_18.f6, .sl (e56_18.f7.map rS_impl_Term)])) rfl rfl rfl (by conv => lhs; whnf) rfl rfl ?_
            refine ldc (w := .one (.ag [.int .i64 e56_18.f4, .int .i64 e56_18.f5, .str e56_18.f6, .sl (e56_18.f7.map rS_impl_Term)])) rfl rfl (by conv => lhs; whnf) rfl rfl ?_
            refine lit (L := ([S_impl_Term.mk e51_17.f0 e51_17.f1 e51_17.f2 e51_17.f3, S_impl_Term.mk e56_18.f4 e56_18.f5 e56_18.f6 e56_18.f7] : List S_impl_Term)) (f := rS_impl_Term) rfl rfl rfl rfl (by simp only [List.map, rS_impl_Term_mk]) rfl rfl ?_
            refine bld (rs := [.int .i64 4, .int .i64 0, .str [], .sl ([S_impl_Term.mk e51_17.f0 e51_17.f1 e51_17.f2 e51_17.f3, S_impl_Term.mk e56_18.f4 e56_18.f5 e56_18.f6 e56_18.f7].map rS_impl_Term)]) rfl rfl rfl rfl rfl ?_
            refine cl0 (v' := .one (.c (.bool c61_19))) (big_impl_SameTerm kc61_19) rfl rfl rfl rfl rfl rfl rfl rfl rfl ?_
            refine rd (.bool (!c61_19)) rfl rfl rfl rfl rfl ?_
            refine step_nil ?_
            exact ⟨rfl, rfl, rfl, rfl, rfl⟩
          clear s3 s4 s8 s41 o3
          intro x hM
          obtain ⟨s3, s4, s8, s62, o3⟩ := hM
          refine bif_cases h (fun q20 h => ?_) (fun q20 h => ?_)
          · refine c_ct (by rw [← q20]; exact s62) ?_
            refine c_reg (fun x => x.sl 2 = .one (.c (.bool false)) ∧ x.ob 3 = some [.int .i64 c12_3.1, .int .i64 c12_3.2.1, .str c12_3.2.2.1, .sl (c12_3.2.2.2.map rS_impl_Term)]) ?_ ?_
            · rw [← put_self s3, ← put_self s4, ← put_self s8, ← put_self s62, ← setO_self o3]
              refine asg rfl (by conv => lhs; whnf) rfl ?_
              refine step_nil ?_
              exact ⟨rfl, rfl⟩
            clear s3 s4 s8 s62 o3
            intro x hM
            obtain ⟨s2, o3⟩ := hM
            refine c_ret ?_
            cases h
            show _ ∧ _
            exact ⟨nofun, rfl, s2⟩
          · refine c_cf (by rw [← q20]; exact s62) ?_
            refine c_skip ?_
            show vcC _ _ _ _ _ _ _
            refine c_regl (fun x => x.sl 3 = .one (.ptr 3 0) ∧ x.sl 4 = .one (.c (.sl (c15_4.1.map rS_impl_Send))) ∧ x.sl 8 = .one (.c (.int .i64 (IntKind.wrap .i64 (v8_11 + (1 : Int))))) ∧ x.ob 3 = some [.int .i64 c12_3.1, .int .i64 c12_3.2.1, .str c12_3.2.2.1, .sl (c12_3.2.2.2.map rS_impl_Term)]) ?_ ?_
            · rw [← put_self s3, ← put_self s4, ← put_self s8, ← put_self s62, ← setO_self o3]
              refine mv rfl (by conv => lhs; whnf) rfl ?_
              refine rd (.int .i64 (IntKind.wrap .i64 (v8_11 + (1 : Int)))) rfl rfl rfl rfl rfl ?_
              refine asg rfl (by conv => lhs; whnf) rfl ?_
              refine step_nil ?_
              exact ⟨rfl, rfl, rfl, rfl⟩
            clear s3 s4 s8 s62 o3
            intro x hM
            obtain ⟨s3, s4, s8, o3⟩ := hM
            cases h
            show _ ∧ _
            exact ⟨rfl, s3, s4, s8, o3⟩
        · refine c_cf (by rw [← q15]; exact s41) ?_
          refine c_exit ?_
          cases h
          show _ ∧ _
          exact ⟨nofun, rfl, s3, s4, s8, s41, o3⟩
      clear hq
      clear s3 s4 s8 o3
      intro e x hM
      rcases q21 with v2_12 | ⟨v8_13, v41_14⟩
      · obtain ⟨rfl, s2⟩ := hM
        cases h
        show _ ∧ _
        rw [← put_self s2]
        exact ⟨.inr rfl, _, rfl, rfl, rfl, rfl⟩
      · obtain ⟨rfl, s3, s4, s8, s41, o3⟩ := hM
        show vcC _ _ _ _ _ _ _
        obtain ⟨v2_22, hr, h⟩ := bind_some h
        refine c_reg (fun x => x.sl 2 = .one (.c (.bool v2_22)) ∧ x.ob 3 = some [.int .i64 c12_3.1, .int .i64 c12_3.2.1, .str c12_3.2.2.1, .sl (c12_3.2.2.2.map rS_impl_Term)]) ?_ ?_
        · clear h
          rw [← put_self s3, ← put_self s4, ← put_self s8, ← put_self s41, ← setO_self o3]
          refine mv rfl (by conv => lhs; whnf) rfl ?_
          refine ln rfl rfl (by conv => lhs; whnf) rfl ?_
          refine fld (u := .one (.ptr 3 3)) rfl rfl rfl (by conv => lhs; whnf) rfl rfl ?_
          refine ldo (w := .one (.c (.sl (c12_3.2.2.2.map rS_impl_Term)))) rfl rfl rfl (by conv => lhs; whnf) rfl rfl rfl ?_
          refine ln rfl rfl (by conv => lhs; whnf) rfl ?_
          refine rd (.bool (decide ((c15_4.1.length : Int) = (c12_3.2.2.2.length : Int)))) rfl rfl rfl rfl rfl ?_
          refine mv rfl (by conv => lhs; whnf) rfl ?_
          refine bif_cases hr (fun q23 hr => ?_) (fun q23 hr => ?_)
          · refine fld (u := .one (.ptr 3 0)) (g_ofc rfl (by conv => lhs; whnf) q23 rfl) rfl rfl (by conv => lhs; whnf) rfl rfl ?_
            refine ldo (w := .one (.c (.int .i64 c12_3.1))) (g_ofc rfl (by conv => lhs; whnf) q23 rfl) rfl rfl (by conv => lhs; whnf) rfl rfl rfl ?_
            refine rd (.bool (decide (c12_3.1 = (5 : Int)))) (g_ofc rfl (by conv => lhs; whnf) q23 rfl) rfl rfl rfl rfl ?_
            refine pkc rfl (by conv => lhs; whnf) q23 (by conv => lhs; whnf) rfl ?_
            refine asg rfl (by conv => lhs; whnf) rfl ?_
            refine step_nil ?_
            cases hr
            exact ⟨rfl, rfl⟩
          · refine sk (g_ofc rfl (by conv => lhs; whnf) q23 rfl) ?_
            refine sk (g_ofc rfl (by conv => lhs; whnf) q23 rfl) ?_
            refine sk (g_ofc rfl (by conv => lhs; whnf) q23 rfl) ?_
            refine pkc rfl (by conv => lhs; whnf) q23 (by conv => lhs; whnf) rfl ?_
            refine asg rfl (by conv => lhs; whnf) rfl ?_
            refine step_nil ?_
            cases hr
            exact ⟨rfl, rfl⟩
        clear hr
        clear s3 s4 s8 s41 o3
        intro x hM
        obtain ⟨s2, o3⟩ := hM
        refine c_ret ?_
        cases h
        show _ ∧ _
        rw [← put_self s2]
        exact ⟨.inr rfl, _, rfl, rfl, rfl, rfl⟩
end Go.Own
