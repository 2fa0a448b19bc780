/- What is told of the functions: shapes and kinds. No conditions. -/
import Derived.Test.YtgeomhdbckjkcaaProg
import Derived.KernelRfl
import Derived.WalkKit
import Derived.Lib.Walk
import Derived.Lib.SliceRun
import Derived.Deep.LoopGhost
import Derived.Shelf.RegionOpenPlain
import Derived.Test.YtgeomhdbckjkcaaOwn3
set_option linter.unusedVariables false
set_option linter.unusedSimpArgs false
set_option linter.unnecessarySimpa false
namespace Go.Own
open Go Go.Proofs
def τ : TypeId → Option TI
  | 3 => some { size := 1, bytes := 8, zero := [.int .i64 0], agg := false, kind := .int .i64 }
  | 4 => some { size := 1, bytes := 1, zero := [.bool false], agg := false, kind := .bool }
  | 5 => some { size := 1, bytes := 1, zero := [.int .u8 0], agg := false, kind := .int .u8 }
  | 9 => some { size := 1, bytes := 16, zero := [.str []], agg := false, kind := .str }
  | 29 => some { size := 1, bytes := 24, zero := [.sl []], agg := false, kind := .sl 134 }
  | 31 => some { size := 1, bytes := 24, zero := [.sl []], agg := false, kind := .sl 189 }
  | 32 => some { size := 1, bytes := 24, zero := [.sl []], agg := false, kind := .sl 196 }
  | 34 => some { size := 2, bytes := 48, zero := [.sl [], .sl []], agg := true, kind := .struct [(0, 1, false), (1, 1, false)] }
  | 37 => some { size := 1, bytes := 24, zero := [.sl []], agg := false, kind := .sl 137 }
  | 80 => some { size := 1, bytes := 24, zero := [.sl []], agg := false, kind := .sl 5 }
  | 129 => some { size := 1, bytes := 24, zero := [.sl []], agg := false, kind := .sl 294 }
  | 130 => some { size := 1, bytes := 24, zero := [.sl []], agg := false, kind := .sl 297 }
  | 132 => some { size := 2, bytes := 48, zero := [.sl [], .sl []], agg := true, kind := .struct [(0, 1, false), (1, 1, false)] }
  | 134 => some { size := 7, bytes := 128, zero := [.str [], .int .i64 0, .sl [], .sl [], .bool false, .sl [], .sl []], agg := true, kind := .struct [(0, 1, false), (1, 1, false), (2, 2, true), (4, 1, false), (5, 2, true)] }
  | 137 => some { size := 7, bytes := 128, zero := [.str [], .int .i64 0, .sl [], .sl [], .bool false, .sl [], .sl []], agg := true, kind := .struct [(0, 1, false), (1, 1, false), (2, 2, true), (4, 1, false), (5, 2, true)] }
  | 139 => some { size := 1, bytes := 8, zero := [.np], agg := false, kind := .ptr }
  | 187 => some { size := 1, bytes := 24, zero := [.sl []], agg := false, kind := .sl 192 }
  | 189 => some { size := 4, bytes := 56, zero := [.str [], .int .i64 0, .int .i64 0, .sl []], agg := true, kind := .struct [(0, 1, false), (1, 1, false), (2, 1, false), (3, 1, false)] }
  | 192 => some { size := 4, bytes := 40, zero := [.int .i64 0, .int .i64 0, .str [], .int .i64 0], agg := true, kind := .struct [(0, 1, false), (1, 1, false), (2, 1, false), (3, 1, false)] }
  | 196 => some { size := 4, bytes := 56, zero := [.int .i64 0, .int .i64 0, .str [], .sl []], agg := true, kind := .struct [(0, 1, false), (1, 1, false), (2, 1, false), (3, 1, false)] }
  | 292 => some { size := 1, bytes := 24, zero := [.sl []], agg := false, kind := .sl 327 }
  | 294 => some { size := 4, bytes := 56, zero := [.str [], .int .i64 0, .int .i64 0, .sl []], agg := true, kind := .struct [(0, 1, false), (1, 1, false), (2, 1, false), (3, 1, false)] }
  | 297 => some { size := 4, bytes := 56, zero := [.int .i64 0, .int .i64 0, .str [], .sl []], agg := true, kind := .struct [(0, 1, false), (1, 1, false), (2, 1, false), (3, 1, false)] }
  | 327 => some { size := 4, bytes := 40, zero := [.int .i64 0, .int .i64 0, .str [], .int .i64 0], agg := true, kind := .struct [(0, 1, false), (1, 1, false), (2, 1, false), (3, 1, false)] }
  | _ => none
set_option maxRecDepth 100000 in
theorem tables : Tables Try.prog τ := by
  intro t i h
  unfold τ at h
  split at h <;> (try cases h)
  · exact ⟨_, _, _, rfl, rfl, rfl, rfl, rfl, rfl, rfl, by decide, rfl, rfl⟩
  · exact ⟨_, _, _, rfl, rfl, rfl, rfl, rfl, rfl, rfl, by decide, rfl, rfl⟩
  · exact ⟨_, _, _, rfl, rfl, rfl, rfl, rfl, rfl, rfl, by decide, rfl, rfl⟩
  · exact ⟨_, _, _, rfl, rfl, rfl, rfl, rfl, rfl, rfl, by decide, rfl, rfl⟩
  · exact ⟨_, _, _, rfl, rfl, rfl, rfl, rfl, rfl, rfl, by decide, rfl, rfl⟩
  · exact ⟨_, _, _, rfl, rfl, rfl, rfl, rfl, rfl, rfl, by decide, rfl, rfl⟩
  · exact ⟨_, _, _, rfl, rfl, rfl, rfl, rfl, rfl, rfl, by decide, rfl, rfl⟩
  · refine ⟨_, _, _, rfl, rfl, rfl, rfl, rfl, rfl, rfl, by decide, rfl, _, rfl, rfl, fun j f hf => ?_⟩
    match j with
    | 0 => simp at hf; subst hf; exact ⟨_, _, rfl, rfl, rfl, rfl, by decide, rfl, rfl⟩
    | 1 => simp at hf; subst hf; exact ⟨_, _, rfl, rfl, rfl, rfl, by decide, rfl, rfl⟩
    | j + 2 => simp at hf
  · exact ⟨_, _, _, rfl, rfl, rfl, rfl, rfl, rfl, rfl, by decide, rfl, rfl⟩
  · exact ⟨_, _, _, rfl, rfl, rfl, rfl, rfl, rfl, rfl, by decide, rfl, rfl⟩
  · exact ⟨_, _, _, rfl, rfl, rfl, rfl, rfl, rfl, rfl, by decide, rfl, rfl⟩
  · exact ⟨_, _, _, rfl, rfl, rfl, rfl, rfl, rfl, rfl, by decide, rfl, rfl⟩
  · refine ⟨_, _, _, rfl, rfl, rfl, rfl, rfl, rfl, rfl, by decide, rfl, _, rfl, rfl, fun j f hf => ?_⟩
    match j with
    | 0 => simp at hf; subst hf; exact ⟨_, _, rfl, rfl, rfl, rfl, by decide, rfl, rfl⟩
    | 1 => simp at hf; subst hf; exact ⟨_, _, rfl, rfl, rfl, rfl, by decide, rfl, rfl⟩
    | j + 2 => simp at hf
  · refine ⟨_, _, _, rfl, rfl, rfl, rfl, rfl, rfl, rfl, by decide, rfl, _, rfl, rfl, fun j f hf => ?_⟩
    match j with
    | 0 => simp at hf; subst hf; exact ⟨_, _, rfl, rfl, rfl, rfl, by decide, rfl, rfl⟩
    | 1 => simp at hf; subst hf; exact ⟨_, _, rfl, rfl, rfl, rfl, by decide, rfl, rfl⟩
    | 2 => simp at hf; subst hf; exact ⟨_, _, rfl, rfl, rfl, rfl, by decide, rfl, rfl⟩
    | 3 => simp at hf; subst hf; exact ⟨_, _, rfl, rfl, rfl, rfl, by decide, rfl, rfl⟩
    | 4 => simp at hf; subst hf; exact ⟨_, _, rfl, rfl, rfl, rfl, by decide, rfl, rfl⟩
    | j + 5 => simp at hf
  · refine ⟨_, _, _, rfl, rfl, rfl, rfl, rfl, rfl, rfl, by decide, rfl, _, rfl, rfl, fun j f hf => ?_⟩
    match j with
    | 0 => simp at hf; subst hf; exact ⟨_, _, rfl, rfl, rfl, rfl, by decide, rfl, rfl⟩
    | 1 => simp at hf; subst hf; exact ⟨_, _, rfl, rfl, rfl, rfl, by decide, rfl, rfl⟩
    | 2 => simp at hf; subst hf; exact ⟨_, _, rfl, rfl, rfl, rfl, by decide, rfl, rfl⟩
    | 3 => simp at hf; subst hf; exact ⟨_, _, rfl, rfl, rfl, rfl, by decide, rfl, rfl⟩
    | 4 => simp at hf; subst hf; exact ⟨_, _, rfl, rfl, rfl, rfl, by decide, rfl, rfl⟩
    | j + 5 => simp at hf
  · exact ⟨_, _, _, rfl, rfl, rfl, rfl, rfl, rfl, rfl, by decide, rfl, _, rfl⟩
  · exact ⟨_, _, _, rfl, rfl, rfl, rfl, rfl, rfl, rfl, by decide, rfl, rfl⟩
  · refine ⟨_, _, _, rfl, rfl, rfl, rfl, rfl, rfl, rfl, by decide, rfl, _, rfl, rfl, fun j f hf => ?_⟩
    match j with
    | 0 => simp at hf; subst hf; exact ⟨_, _, rfl, rfl, rfl, rfl, by decide, rfl, rfl⟩
    | 1 => simp at hf; subst hf; exact ⟨_, _, rfl, rfl, rfl, rfl, by decide, rfl, rfl⟩
    | 2 => simp at hf; subst hf; exact ⟨_, _, rfl, rfl, rfl, rfl, by decide, rfl, rfl⟩
    | 3 => simp at hf; subst hf; exact ⟨_, _, rfl, rfl, rfl, rfl, by decide, rfl, rfl⟩
    | j + 4 => simp at hf
  · refine ⟨_, _, _, rfl, rfl, rfl, rfl, rfl, rfl, rfl, by decide, rfl, _, rfl, rfl, fun j f hf => ?_⟩
    match j with
    | 0 => simp at hf; subst hf; exact ⟨_, _, rfl, rfl, rfl, rfl, by decide, rfl, rfl⟩
    | 1 => simp at hf; subst hf; exact ⟨_, _, rfl, rfl, rfl, rfl, by decide, rfl, rfl⟩
    | 2 => simp at hf; subst hf; exact ⟨_, _, rfl, rfl, rfl, rfl, by decide, rfl, rfl⟩
    | 3 => simp at hf; subst hf; exact ⟨_, _, rfl, rfl, rfl, rfl, by decide, rfl, rfl⟩
    | j + 4 => simp at hf
  · refine ⟨_, _, _, rfl, rfl, rfl, rfl, rfl, rfl, rfl, by decide, rfl, _, rfl, rfl, fun j f hf => ?_⟩
    match j with
    | 0 => simp at hf; subst hf; exact ⟨_, _, rfl, rfl, rfl, rfl, by decide, rfl, rfl⟩
    | 1 => simp at hf; subst hf; exact ⟨_, _, rfl, rfl, rfl, rfl, by decide, rfl, rfl⟩
    | 2 => simp at hf; subst hf; exact ⟨_, _, rfl, rfl, rfl, rfl, by decide, rfl, rfl⟩
    | 3 => simp at hf; subst hf; exact ⟨_, _, rfl, rfl, rfl, rfl, by decide, rfl, rfl⟩
    | j + 4 => simp at hf
  · exact ⟨_, _, _, rfl, rfl, rfl, rfl, rfl, rfl, rfl, by decide, rfl, rfl⟩
  · refine ⟨_, _, _, rfl, rfl, rfl, rfl, rfl, rfl, rfl, by decide, rfl, _, rfl, rfl, fun j f hf => ?_⟩
    match j with
    | 0 => simp at hf; subst hf; exact ⟨_, _, rfl, rfl, rfl, rfl, by decide, rfl, rfl⟩
    | 1 => simp at hf; subst hf; exact ⟨_, _, rfl, rfl, rfl, rfl, by decide, rfl, rfl⟩
    | 2 => simp at hf; subst hf; exact ⟨_, _, rfl, rfl, rfl, rfl, by decide, rfl, rfl⟩
    | 3 => simp at hf; subst hf; exact ⟨_, _, rfl, rfl, rfl, rfl, by decide, rfl, rfl⟩
    | j + 4 => simp at hf
  · refine ⟨_, _, _, rfl, rfl, rfl, rfl, rfl, rfl, rfl, by decide, rfl, _, rfl, rfl, fun j f hf => ?_⟩
    match j with
    | 0 => simp at hf; subst hf; exact ⟨_, _, rfl, rfl, rfl, rfl, by decide, rfl, rfl⟩
    | 1 => simp at hf; subst hf; exact ⟨_, _, rfl, rfl, rfl, rfl, by decide, rfl, rfl⟩
    | 2 => simp at hf; subst hf; exact ⟨_, _, rfl, rfl, rfl, rfl, by decide, rfl, rfl⟩
    | 3 => simp at hf; subst hf; exact ⟨_, _, rfl, rfl, rfl, rfl, by decide, rfl, rfl⟩
    | j + 4 => simp at hf
  · refine ⟨_, _, _, rfl, rfl, rfl, rfl, rfl, rfl, rfl, by decide, rfl, _, rfl, rfl, fun j f hf => ?_⟩
    match j with
    | 0 => simp at hf; subst hf; exact ⟨_, _, rfl, rfl, rfl, rfl, by decide, rfl, rfl⟩
    | 1 => simp at hf; subst hf; exact ⟨_, _, rfl, rfl, rfl, rfl, by decide, rfl, rfl⟩
    | 2 => simp at hf; subst hf; exact ⟨_, _, rfl, rfl, rfl, rfl, by decide, rfl, rfl⟩
    | 3 => simp at hf; subst hf; exact ⟨_, _, rfl, rfl, rfl, rfl, by decide, rfl, rfl⟩
    | j + 4 => simp at hf
end Go.Own
namespace Go.Proofs
open Go.RowKit Go.Lib
set_option linter.unusedVariables false
set_option linter.unusedSimpArgs false
set_option maxHeartbeats 4000000 in
set_option maxRecDepth 100000 in
theorem cloneZ164 (hu : Try.prog.underlying 187 = some (.slice 192)) (n c : Nat) (w : World) : Calls Try.prog 164 #[.slice none n c] w fun e w' => e = .returned (.slice none 0 0) ∧ w' = w := by
  have q22 : ∀ (w : World) (a : Option Addr) (n c n' c' : Nat), (binOp .eql 187 (.slice a n c) (.slice none n' c')).run Try.prog w = .ok (.bool a.isNone) w := fun w a n c n' c' => Lib.run_eql_slice_nil w _ _ a n c n' c' hu
  go_enter Try.func164, Try.ntmps164
  go_wp2
  go_ret
  exact ⟨rfl, rfl⟩
set_option maxHeartbeats 4000000 in
set_option maxRecDepth 100000 in
theorem cloneN164 (i0 : TypeInfo) (z : Value) (size bytes : Nat) (hi : Try.prog.info? 192 = some i0) (hz0 : i0.zero = some z) (hz1 : i0.size = size) (hz2 : i0.bytes = bytes) (hzs : z.cells.size = size) (hsz : 0 < size) (hu : Try.prog.underlying 187 = some (.slice 192))
    (ad : Addr) (n c : Nat) (news : List Value) (w : World) (hl : news.length = n * size) (hn : n ≤ maxLen) (hbig : n * bytes ≤ 140737488355328) (hc : ∀ j u, news[j]? = some u → w.cell? (ad.add j) = some u) (h1 : ∀ u ∈ news, u.oneCell' = true) :
    Calls Try.prog 164 #[.slice (some ad) n c] w fun e w' => ∃ v', e = .returned v' ∧ w'.ownsRow w.heap.size 192 size v' n news ∧ Below w.heap.size w w' := by
  have q22 : ∀ (w : World) (a : Option Addr) (n c n' c' : Nat), (binOp .eql 187 (.slice a n c) (.slice none n' c')).run Try.prog w = .ok (.bool a.isNone) w := fun w a n c n' c' => Lib.run_eql_slice_nil w _ _ a n c n' c' hu
  have u22 : ∀ w, Sem.run Try.prog (underlying 187) w = .ok (TypeDesc.slice 192) w := run_underlying hu
  have z23 : ∀ w, (Go.sizeOf 192).run Try.prog w = .ok size w := fun w => by simp only [Go.sizeOf, typeInfo, Sem.run_bind, run_program, Result.andThen_ok, hi, Sem.run_pure, hz1]
  have A : Aside (∀ j u, news[j]? = some u → w.cell? (ad.add j) = some u) := hc
  clear hc
  go_enter Try.func164, Try.ntmps164
  go_wp2_with (at_builtin; refine wpList_append_own _ rfl _ _ 187 rfl w.heap.size 192 i0 z size bytes hu hi hz0 hz1 hz2 hzs hsz _ _ _ rfl (World.ownsRow_made w #[] 0 (Nat.le_refl _) (Nat.zero_le _) (by simp)) ad n c news rfl ?qc1 ?qc2 ?qc3 ?qc4 ?qc5 ?qc6 ?_)
  case qc1 => exact hl
  case qc2 =>
    intro j u hj
    exact Lib.cell?_alloc_some _ (A.out j u hj)
  case qc3 => exact h1
  case qc4 => rw [Nat.zero_add]; exact hn
  case qc5 => rw [Nat.zero_add]; exact hbig
  case qc6 => simp
  intro v' w1 hown hgrow hnil
  go_wp2
  go_ret
  refine ⟨v', rfl, by simpa using hown, ?_⟩
  exact ((Below.refl _ w).alloc (Nat.le_refl _) _).grown hgrow (by simp) (by intro k hk; simp [Value.ownBlock] at hk; omega)
end Go.Proofs
namespace Go.Own
open Go Go.Proofs
set_option maxRecDepth 100000 in
theorem clone164 {τ : TypeId → Option TI} (hT : Tables Try.prog τ) {ei es : TI} (hS : τ 187 = some es) (kS : es.kind = .sl 192) (hE : τ 192 = some ei) {s : Nat} (hs : ei.size = s) (hsp : 0 < s) {l : List (List T)} (h1 : ∀ e ∈ l, e.length = s ∧ e.all scal = true) (hb : l.length * ei.bytes ≤ 140737488355328) (h63 : l.length ≤ 4611686018427387904) :
    TC Try.prog 164 (libSg ([[[.F]]], [[.U s]], false)) [.one (.c (.sl l))] [] (.one (.c (.sl l))) none [] none := by
  obtain ⟨info, de, z0, q1, q2, q3, q4, q5, q6, q7, q8, q9⟩ := hT.get hE
  obtain ⟨dS, hdS, rfl⟩ := tk_ok hT (show tk τ 187 = some (.sl 192) by unfold tk; rw [hS]; exact congrArg some kS)
  obtain ⟨ze, _⟩ := zerosOf_get q6
  have hzs : z0.cells.size = s := by
    simp only [Array.length_toList] at ze
    omega
  exact cloneTC Try.func164 rfl (by decide) hsp h1 (by simp only [maxLen]; omega) (fun n k w => cloneZ164 hdS n k w) (fun ad k news w g1 g2 g3 => cloneN164 info z0 s ei.bytes q1 q5 (by omega) q4 hzs hsp hdS ad _ k news w g1 (by simp only [maxLen]; omega) hb g2 g3)
end Go.Own
namespace Go.Own
open Go Go.Proofs
abbrev vi : V := .one (.c (.int .i64 0))
abbrev vy : V := .one (.c (.int .u8 0))
abbrev vb : V := .one (.c (.bool false))
abbrev vl : V := .one (.c (.sl []))
abbrev vs : V := .one (.c (.str []))
abbrev vj : V := .one .junk
abbrev tl0 : List T := [.str [], .int .i64 0, .sl [], .sl [], .bool false, .sl [], .sl []]
abbrev tl1 : List T := [.int .i64 0, .int .i64 0, .str [], .sl []]
abbrev tl2 : List T := [.str [], .int .i64 0, .int .i64 0, .sl []]
abbrev tl4 : List T := [.int .i64 0, .int .i64 0, .str [], .int .i64 0]
def F4 : FA := { n := 109, sh := [vl, vs, vi, vj, vj, vj, vb, vi, .one (.ptr 8 0), vb, vl, .one (.ptr 11 0), vb, vi, vi, vi, .one (.ptr 16 0), vb, vs, vi, vb, vl, vi, vi, vi, vb, .tup [.ag [.sl [], .sl []], .c (.bool false)], vl, vl, vs, vi, .tup [.ag [.sl [], .sl []], .c (.bool false)], .one (.ag [.sl [], .sl []]), vb, vl, vl, .tup [.ag [.sl [], .sl []], .c (.bool false)], vl, vs, vi, .tup [.ag [.sl [], .sl []], .c (.bool false)], .one (.ag [.sl [], .sl []]), vb, .one (.ag [.sl [], .sl []]), .one (.ag [.sl [], .sl []]), vb, vb, vb, vb, vb, vb, vb, vl, vl, vl, vb, vb, .one (.al (.s 10 0 0) []), vi, vi, vi, vb, vb, .one (.ag [.sl [], .sl []]), .one (.ag [.sl [], .sl []]), vb, vb, vb, vb, vb, vb, vb, vb, .one (.ag [.sl [], .sl []]), vi, vi, .one (.ag [.sl [], .sl []]), vi, vi, vi, vb, vi, vi, vb, .tup [.ag [.sl [], .sl []], .c (.bool false)], vl, vl, vs, vi, .tup [.ag [.sl [], .sl []], .c (.bool false)], .one (.ag [.sl [], .sl []]), vb, .one (.ag [.sl [], .sl []]), .one (.ag [.sl [], .sl []]), vb, vb, vb, vb, vb, vb, vb, .one (.ag [.sl [], .sl []]), vi, vi, vi, vb, vi, vi, vb], obs := [(8, [.sl [], .sl []]), (11, [.sl [], .sl []]), (16, [.sl [], .sl []])], al := [57], tk := [22, 24, 26, 36, 47, 58, 60, 62, 68, 69, 74, 77, 81, 84, 85, 87, 88, 92, 93, 96, 97, 98, 101, 102, 106, 107], keep := [(0, [0, 1, 2]), (1, [0, 1, 2, 20]), (2, [6]), (3, [0, 1, 2, 7]), (4, [0, 1, 2, 7]), (5, [0, 1, 2, 25]), (6, [6]), (7, [0, 1, 2, 8, 9]), (8, [0, 1, 2, 8, 9, 10]), (9, [0, 1, 2, 8, 9, 10, 11, 12]), (10, [0, 1, 2, 8, 9, 10, 11, 12, 51]), (11, [6]), (12, [0, 1, 2, 8, 9, 10, 11, 12, 56]), (13, [6]), (14, [0, 1, 2, 8, 9, 10, 11, 12, 13]), (15, [0, 1, 2, 8, 9, 11, 12, 13]), (16, [0, 1, 2, 8, 9, 11, 72]), (17, [6]), (18, [0, 1, 2, 8, 9, 11, 14]), (19, [0, 1, 2, 8, 9, 11, 14]), (20, [0, 1, 2, 8, 9, 11, 14, 15]), (21, [0, 1, 2, 8, 9, 11, 14, 15]), (22, [0, 1, 2, 8, 9, 11, 14, 15, 80]), (23, [6]), (24, [0, 1, 2, 8, 9, 11, 14, 83]), (25, [6]), (26, [8, 9, 11, 14, 16, 17]), (27, [11, 14, 100]), (28, [6]), (29, [11, 14, 15]), (30, [14, 15]), (31, [14, 15, 105]), (32, [6]), (33, [108]), (34, [6]), (35, [6])], ioa := [57], mks := [(19, [(0, 89), (1, 90)])] }
def F17 : FA := { n := 27, sh := [vl, vi, vj, vj, vi, vi, vi, vl, vi, vi, vi, vb, vi, vl, vi, vb, vi, vi, vl, vi, .one (.cp tl0), .one (.ag tl0), vi, vi, vi, vb, vi], obs := [], tk := [6, 16, 22, 26], keep := [(0, [0, 1]), (1, [0, 1]), (2, [0, 1, 11]), (3, [4]), (4, [0, 1, 5]), (5, [0, 1, 5, 15]), (6, [0, 1, 5]), (7, [0, 1, 5]), (8, [0, 1, 5, 25]), (9, [4]), (10, [4])] }
def F18 : FA := { n := 20, sh := [vl, vs, vi, vj, vj, vj, .one (.ptr 6 0), vb, .one (.ptr 8 0), vb, .tup [.ag [.sl [], .sl []], .c (.bool false)], vl, vs, vi, .tup [.ag [.sl [], .sl []], .c (.bool false)], .one (.ag [.sl [], .sl []]), vb, .one (.ag [.sl [], .sl []]), .one (.ag [.sl [], .sl []]), vb], obs := [(6, [.sl [], .sl []]), (8, [.sl [], .sl []])], tk := [10, 11, 12, 13, 17, 19], keep := [(0, [0, 1, 2, 6]), (1, [6, 8, 9]), (2, [6, 7])] }
def F19 : FA := { n := 23, sh := [vl, vj, vl, vl, vi, vl, vi, vl, vi, vl, vi, vb, vi, vi, .one (.al (.s 3 0 0) []), vi, vl, vi, .one (.cp tl0), .one (.ag tl0), .one (.ag tl0), .one (.pp (.s 3 0 0) [] 0 0), vl], obs := [], al := [14], tk := [12, 22], keep := [(0, [0]), (1, [0, 3]), (2, [0, 3, 4]), (3, [0, 3, 4, 11]), (4, [0, 3, 4]), (5, [0, 3, 4]), (6, [2])] }
def F20 : FA := { n := 20, sh := [vl, vs, vi, vj, vj, vj, .one (.ptr 6 0), vb, .one (.cp [.sl [], .sl []]), vl, vs, vi, .one (.cp [.sl [], .sl []]), .one (.cp [.sl [], .sl []]), vb, .one (.ag [.sl [], .sl []]), .one (.cp [.sl [], .sl []]), .one (.cp [.sl [], .sl []]), .one (.ag [.sl [], .sl []]), .one (.ag [.sl [], .sl []])], obs := [(6, [.sl [], .sl []])], tk := [9, 10, 11, 16], keep := [(0, [0, 1, 2, 6]), (1, [6, 8]), (2, [6, 8, 14]), (3, [6, 7]), (4, [6, 7])] }
def F21 : FA := { n := 17, sh := [.one (.ag [.sl [], .sl []]), .one (.ag [.sl [], .sl []]), .one (.ptr 2 0), .one (.ptr 3 0), vb, .one (.ptr 2 0), vl, .one (.ptr 3 0), vl, vb, vb, .one (.ptr 2 1), vl, .one (.ptr 3 1), vl, vb, vb], obs := [(2, [.sl [], .sl []]), (3, [.sl [], .sl []])], tk := [6, 8, 12, 14], keep := [(0, [2, 3]), (1, [2, 3, 10]), (2, [4]), (3, [16]), (4, [4]), (5, [4])] }
def F22 : FA := { n := 27, sh := [vl, vl, vj, vj, vb, vi, vl, vi, vl, vi, vb, vi, vl, vi, vb, vi, vi, vl, vi, .one (.cp tl0), .one (.ag tl0), vl, vi, .one (.cp tl0), .one (.ag tl0), vb, vb], obs := [], tk := [15], keep := [(0, [0, 1]), (1, [0, 1, 10]), (2, [4]), (3, [0, 1, 5]), (4, [0, 1, 5, 14]), (5, [0, 1, 5]), (6, [0, 1, 5, 26]), (7, [4]), (8, [4])] }
def F23 : FA := { n := 69, sh := [vl, vi, vj, vj, vi, vi, vi, vl, vi, vb, vi, vi, .one (.al (.s 0 0 0) []), vi, vi, vs, .one (.pp (.s 0 0 0) [] 0 0), .one (.pp (.s 0 0 0) [] 0 0), vi, vi, .one (.al (.s 0 0 0) []), vi, vi, .one (.pp (.s 0 0 0) [] 0 0), .one (.pp (.s 0 0 0) [] 0 1), vi, vi, .one (.al (.s 0 0 0) []), vi, .one (.pp (.s 0 0 0) [] 0 0), .one (.pp (.s 0 0 0) [] 0 2), .one (.pp (.s 0 0 0) [] 0 2), .one (.al (.s 0 0 0) [(0, 0)]), vi, vi, .one (.al (.s 0 0 0) []), vi, .one (.pp (.s 0 0 0) [] 0 0), .one (.pp (.s 0 0 0) [] 0 2), .one (.pp (.s 0 0 0) [] 0 3), .one (.al (.s 0 0 0) [(0, 0)]), vi, vi, .one (.al (.s 0 0 0) []), vi, vi, vi, vb, .one (.pp (.s 0 0 0) [] 0 0), .one (.pp (.s 0 0 0) [] 0 4), vi, vi, .one (.al (.s 0 0 0) []), vi, .one (.pp (.s 0 0 0) [] 0 0), .one (.pp (.s 0 0 0) [] 0 5), .one (.pp (.s 0 0 0) [] 0 5), .one (.al (.s 0 0 0) [(0, 0)]), vi, vi, .one (.al (.s 0 0 0) []), vi, .one (.pp (.s 0 0 0) [] 0 0), .one (.pp (.s 0 0 0) [] 0 5), .one (.pp (.s 0 0 0) [] 0 6), .one (.al (.s 0 0 0) [(0, 0)]), vi, vi, vi], obs := [], al := [12, 20, 27, 32, 35, 40, 43, 52, 57, 60, 65], tk := [10, 18, 25, 33, 41, 50, 58, 66, 68], keep := [(0, [0, 1]), (1, [0, 1, 5]), (2, [0, 1, 5, 9]), (3, [0, 1, 5]), (4, [0, 1, 5]), (5, [0, 1, 5]), (6, [0, 1, 5]), (7, [0, 1, 5]), (8, [0, 1, 5]), (9, [0, 1, 5]), (10, [0, 1, 5]), (11, [0, 1, 5]), (12, [0, 1, 5]), (13, [0, 1, 5]), (14, [0, 4])], io := some 0, ioa := [32, 40, 57, 65] }
def F25 : FA := { n := 18, sh := [.one (.ag [.sl [], .sl []]), vi, .one (.ptr 2 0), vj, vi, .one (.ptr 2 0), vl, vi, vi, vi, vb, .one (.ptr 2 1), vl, vi, vi, vi, vb, vi], obs := [(2, [.sl [], .sl []])], tk := [6, 7, 12, 13, 17], keep := [(0, [1, 2]), (1, [1, 2]), (2, [1, 2, 10]), (3, [4]), (4, [1]), (5, [1, 16]), (6, [4]), (7, [4])] }
def F79 : FA := { n := 25, sh := [.one (.ag tl0), vi, .one (.ptr 2 0), vj, vi, vi, .one (.ptr 2 0), vs, vi, vi, vi, vb, .one (.ptr 2 2), .one (.ag [.sl [], .sl []]), vi, vi, vi, vb, .one (.ptr 2 5), .one (.ag [.sl [], .sl []]), vi, vi, vi, vb, vi], obs := [(2, tl0)], tk := [5, 7, 13, 14, 19, 20, 24], keep := [(0, [1, 2]), (1, [1, 2]), (2, [1, 2, 11]), (3, [4]), (4, [1, 2]), (5, [1, 2, 17]), (6, [4]), (7, [1]), (8, [1, 23]), (9, [4]), (10, [4])] }
def F80 : FA := { n := 51, sh := [vl, vs, vi, vj, vj, vj, .one (.ptr 6 0), vb, vi, vl, vs, vi, vb, vi, vb, .one (.ag [.sl [], .sl []]), vb, vl, vi, .one (.cp tl0), .one (.cp [.int .i64 0]), vi, vi, vb, vl, vi, .one (.cp tl0), .one (.cp [.sl [], .sl []]), .one (.ag [.sl [], .sl []]), vb, vl, vi, .one (.cp tl0), .one (.cp [.bool false]), vb, vb, vl, vi, .one (.cp tl0), .one (.cp [.int .i64 0]), vi, vi, vi, vb, vb, vl, vi, .one (.cp tl0), .one (.cp [.sl [], .sl []]), .one (.ag [.sl [], .sl []]), .one (.ag [.sl [], .sl []])], obs := [(6, [.sl [], .sl []])], tk := [10, 24, 25, 35, 42, 45, 46], keep := [(0, [0, 1, 2, 6]), (1, [0, 2, 6, 8]), (2, [0, 2, 6, 8, 12]), (3, [6, 7]), (4, [0, 2, 6, 8, 16]), (5, [6, 7]), (6, [0, 6, 8, 29]), (7, [6, 7]), (8, [6, 7])] }
def F81 : FA := { n := 50, sh := [.one (.ag [.sl [], .sl []]), .one (.ptr 1 0), .one (.ptr 2 0), .one (.ptr 3 0), vi, .one (.ptr 5 0), vi, .one (.ag [.sl [], .sl []]), vi, .one (.ptr 1 0), vl, vi, vb, vi, vi, .one (.ptr 1 0), vl, vi, .one (.cp tl2), .one (.ag tl2), vl, .one (.ptr 5 3), vl, vl, .one (.ptr 5 3), .one (.ptr 3 0), vl, .one (.ag tl2), vl, vl, .one (.ptr 3 0), vi, .one (.ptr 1 1), vl, vi, vb, vi, vi, .one (.ptr 3 1), vl, .one (.ptr 1 1), vl, vi, .one (.cp tl1), .one (.ag tl1), .one (.ag tl1), vl, vl, .one (.ptr 3 1), .one (.ag [.sl [], .sl []])], obs := [(1, [.sl [], .sl []]), (2, [.sl [], .sl []]), (3, [.sl [], .sl []]), (5, tl2)], tk := [13, 22, 26, 27, 36, 39, 49], dp := [20, 23, 28, 29, 46, 47], keep := [(0, [1, 2]), (1, [1, 2, 3]), (2, [1, 2, 3, 4]), (3, [1, 2, 3, 4, 12]), (4, [1, 2, 3, 4]), (5, [1, 2, 3, 4, 5]), (6, [1, 2, 3, 4, 5]), (7, [1, 2, 3, 4]), (8, [1, 2, 3, 6]), (9, [1, 2, 3, 6, 35]), (10, [1, 2, 3, 6]), (11, [1, 2, 3, 6]), (12, [2])] }
def F82 : FA := { n := 22, sh := [.one (.ag tl0), .one (.ptr 1 0), .one (.ptr 2 0), .one (.ptr 3 0), .one (.ptr 1 0), vs, .one (.ptr 3 0), .one (.ptr 1 1), vi, .one (.ptr 3 1), .one (.ptr 1 2), .one (.ag [.sl [], .sl []]), .one (.ag [.sl [], .sl []]), .one (.ptr 3 2), .one (.ptr 1 4), vb, .one (.ptr 3 4), .one (.ptr 1 5), .one (.ag [.sl [], .sl []]), .one (.ag [.sl [], .sl []]), .one (.ptr 3 5), .one (.ag tl0)], obs := [(1, tl0), (2, tl0), (3, tl0)], tk := [5, 8, 11, 15, 18, 21], keep := [(0, [1, 2]), (1, [1, 2, 3]), (2, [1, 2, 3]), (3, [1, 2, 3]), (4, [1, 2, 3]), (5, [1, 2, 3]), (6, [2, 3]), (7, [2])] }
def F83 : FA := { n := 46, sh := [vl, vs, vi, vj, vj, vj, .one (.cp [.sl [], .sl []]), vi, vl, vs, vi, vb, vi, vb, vb, vl, vi, .one (.cp tl0), .one (.cp [.int .i64 0]), vi, vi, vb, vl, vi, .one (.cp tl0), .one (.cp [.sl [], .sl []]), vb, vl, vi, .one (.cp tl0), .one (.cp [.bool false]), vb, vb, vl, vi, .one (.cp tl0), .one (.cp [.int .i64 0]), vi, vi, vi, vb, vb, vl, vi, .one (.cp tl0), .one (.cp [.sl [], .sl []])], obs := [], tk := [9, 22, 23, 32, 39, 42, 43], keep := [(0, [0, 1, 2]), (1, [0, 2, 7]), (2, [0, 2, 7, 11]), (3, [6]), (4, [0, 2, 7, 14]), (5, [6]), (6, [0, 7, 26]), (7, [6]), (8, [6])] }
def F84 : FA := { n := 42, sh := [.one (.ag [.sl [], .sl []]), .one (.ptr 1 0), .one (.ptr 2 0), .one (.ptr 3 0), vj, .one (.ptr 5 0), vj, .one (.ptr 7 0), .one (.ptr 1 0), vl, vi, vi, vb, .one (.cp tl2), .one (.ag tl2), .one (.ptr 5 3), vl, vl, .one (.ptr 5 3), .one (.ptr 3 0), vl, .one (.ag tl2), vl, vl, .one (.ptr 3 0), vi, .one (.ptr 1 1), vl, vi, vi, vb, .one (.cp tl1), .one (.ag tl1), .one (.ptr 3 1), vl, .one (.ag tl1), .one (.ag tl1), vl, vl, .one (.ptr 3 1), vi, .one (.ag [.sl [], .sl []])], obs := [(1, [.sl [], .sl []]), (2, [.sl [], .sl []]), (3, [.sl [], .sl []]), (5, tl2), (7, tl1)], tk := [9, 11, 16, 20, 21, 27, 29, 34, 35, 41], dp := [22, 23, 37, 38], keep := [(0, [1, 2]), (1, [1, 2, 3]), (2, [1, 2, 3, 9, 10, 11]), (3, [1, 2, 3, 9, 10, 11, 12]), (4, [1, 2, 3, 5, 9, 10, 11]), (5, [1, 2, 3, 5, 9, 10, 11]), (6, [1, 2, 3, 9, 10, 11]), (7, [1, 2, 3, 9, 10, 11]), (8, [2, 3, 27, 28, 29]), (9, [2, 3, 27, 28, 29, 30]), (10, [2, 3, 7, 27, 28, 29]), (11, [2, 3, 27, 28, 29]), (12, [2, 3, 27, 28, 29]), (13, [2])] }
def F85 : FA := { n := 27, sh := [vl, vl, vj, vj, vb, vi, vl, vi, vl, vi, vb, vi, vl, vi, vb, vi, vi, vl, vi, .one (.cp tl2), .one (.ag tl2), vl, vi, .one (.cp tl2), .one (.ag tl2), vb, vb], obs := [], tk := [15], keep := [(0, [0, 1]), (1, [0, 1, 10]), (2, [4]), (3, [0, 1, 5]), (4, [0, 1, 5, 14]), (5, [0, 1, 5]), (6, [0, 1, 5, 26]), (7, [4]), (8, [4])] }
def F86 : FA := { n := 27, sh := [vl, vl, vj, vj, vb, vi, vl, vi, vl, vi, vb, vi, vl, vi, vb, vi, vi, vl, vi, .one (.cp tl1), .one (.ag tl1), vl, vi, .one (.cp tl1), .one (.ag tl1), vb, vb], obs := [], tk := [15], keep := [(0, [0, 1]), (1, [0, 1, 10]), (2, [4]), (3, [0, 1, 5]), (4, [0, 1, 5, 14]), (5, [0, 1, 5]), (6, [0, 1, 5, 26]), (7, [4]), (8, [4])] }
def F87 : FA := { n := 32, sh := [.one (.ag tl0), .one (.ag tl0), .one (.ptr 2 0), .one (.ptr 3 0), vb, .one (.ptr 2 0), vs, .one (.ptr 3 0), vs, vb, .one (.ptr 2 1), vi, .one (.ptr 3 1), vi, vb, .one (.ptr 2 2), .one (.ag [.sl [], .sl []]), .one (.ptr 3 2), .one (.ag [.sl [], .sl []]), vb, vb, .one (.ptr 2 4), vb, .one (.ptr 3 4), vb, vb, .one (.ptr 2 5), .one (.ag [.sl [], .sl []]), .one (.ptr 3 5), .one (.ag [.sl [], .sl []]), vb, vb], obs := [(2, tl0), (3, tl0)], tk := [6, 8, 11, 13, 16, 18, 22, 24, 27, 29], keep := [(0, [2, 3]), (1, [2, 3, 9]), (2, [4]), (3, [2, 3, 14]), (4, [4]), (5, [2, 3, 20]), (6, [4]), (7, [2, 3, 25]), (8, [4]), (9, [31]), (10, [4]), (11, [4])] }
def F88 : FA := { n := 20, sh := [vi, vj, vs, vs, vi, vb, vi, vb, vi, vi, vi, vy, vl, vs, vs, vs, vi, vi, vs, vs], obs := [], tk := [14, 16, 18], dp := [12], keep := [(0, [0]), (1, [0, 5]), (2, [2]), (3, [0, 3]), (4, [0, 3, 7]), (5, [0, 3]), (6, [0, 3]), (7, [2])] }
def F89 : FA := { n := 42, sh := [vl, vi, vj, vj, vi, vi, vi, vl, vi, vb, vi, vi, .one (.al (.s 0 0 0) []), vi, vi, vs, .one (.pp (.s 0 0 0) [] 0 0), .one (.pp (.s 0 0 0) [] 0 0), vi, vi, .one (.al (.s 0 0 0) []), vi, vi, .one (.pp (.s 0 0 0) [] 0 0), .one (.pp (.s 0 0 0) [] 0 1), vi, vi, .one (.al (.s 0 0 0) []), vi, vi, .one (.pp (.s 0 0 0) [] 0 0), .one (.pp (.s 0 0 0) [] 0 2), vi, vi, .one (.al (.s 0 0 0) []), vi, .one (.pp (.s 0 0 0) [] 0 0), .one (.pp (.s 0 0 0) [] 0 3), .one (.al (.s 0 0 0) [(0, 0)]), vi, vi, vi], obs := [], al := [12, 20, 27, 34, 38], tk := [10, 18, 25, 32, 39, 41], keep := [(0, [0, 1]), (1, [0, 1, 5]), (2, [0, 1, 5, 9]), (3, [0, 1, 5]), (4, [0, 1, 5]), (5, [0, 1, 5]), (6, [0, 1, 5]), (7, [0, 1, 5]), (8, [0, 1, 5]), (9, [0, 1, 5]), (10, [0, 1, 5]), (11, [0, 4])], io := some 0, ioa := [38] }
def F90 : FA := { n := 42, sh := [vl, vi, vj, vj, vi, vi, vi, vl, vi, vb, vi, vi, .one (.al (.s 0 0 0) []), vi, vi, .one (.pp (.s 0 0 0) [] 0 0), .one (.pp (.s 0 0 0) [] 0 0), vi, vi, .one (.al (.s 0 0 0) []), vi, vi, .one (.pp (.s 0 0 0) [] 0 0), .one (.pp (.s 0 0 0) [] 0 1), vi, vi, .one (.al (.s 0 0 0) []), vi, vi, vs, .one (.pp (.s 0 0 0) [] 0 0), .one (.pp (.s 0 0 0) [] 0 2), vi, vi, .one (.al (.s 0 0 0) []), vi, .one (.pp (.s 0 0 0) [] 0 0), .one (.pp (.s 0 0 0) [] 0 3), .one (.al (.s 0 0 0) [(0, 0)]), vi, vi, vi], obs := [], al := [12, 19, 26, 34, 38], tk := [10, 17, 24, 32, 39, 41], keep := [(0, [0, 1]), (1, [0, 1, 5]), (2, [0, 1, 5, 9]), (3, [0, 1, 5]), (4, [0, 1, 5]), (5, [0, 1, 5]), (6, [0, 1, 5]), (7, [0, 1, 5]), (8, [0, 1, 5]), (9, [0, 1, 5]), (10, [0, 1, 5]), (11, [0, 4])], io := some 0, ioa := [38] }
def F91 : FA := { n := 50, sh := [vl, vi, vj, vj, vi, vi, vi, vl, vi, vb, vi, vi, vl, vi, .one (.cp tl2), .one (.cp [.str []]), vs, vi, vs, vb, vi, vi, vl, vi, .one (.cp tl2), .one (.cp [.int .i64 0]), vi, vi, vb, vi, vi, vl, vi, .one (.cp tl2), .one (.cp [.int .i64 0]), vi, vi, vb, vi, vi, vl, vi, .one (.cp tl2), .one (.cp [.sl []]), vl, vi, vi, vi, vb, vi], obs := [], tk := [10, 20, 29, 38, 45, 49], keep := [(0, [0, 1]), (1, [0, 1, 5]), (2, [0, 1, 5, 9]), (3, [0, 1, 5]), (4, [0, 1, 5, 19]), (5, [4]), (6, [0, 1, 5]), (7, [0, 1, 5, 28]), (8, [4]), (9, [0, 1, 5]), (10, [0, 1, 5, 37]), (11, [4]), (12, [0, 1, 5]), (13, [0, 1, 5]), (14, [0, 1, 5, 48]), (15, [4]), (16, [4])] }
def F92 : FA := { n := 50, sh := [vl, vi, vj, vj, vi, vi, vi, vl, vi, vb, vi, vi, vl, vi, .one (.cp tl1), .one (.cp [.int .i64 0]), vi, vi, vb, vi, vi, vl, vi, .one (.cp tl1), .one (.cp [.int .i64 0]), vi, vi, vb, vi, vi, vl, vi, .one (.cp tl1), .one (.cp [.str []]), vs, vi, vs, vb, vi, vi, vl, vi, .one (.cp tl1), .one (.cp [.sl []]), vl, vi, vi, vi, vb, vi], obs := [], tk := [10, 19, 28, 38, 45, 49], keep := [(0, [0, 1]), (1, [0, 1, 5]), (2, [0, 1, 5, 9]), (3, [0, 1, 5]), (4, [0, 1, 5, 18]), (5, [4]), (6, [0, 1, 5]), (7, [0, 1, 5, 27]), (8, [4]), (9, [0, 1, 5]), (10, [0, 1, 5, 37]), (11, [4]), (12, [0, 1, 5]), (13, [0, 1, 5]), (14, [0, 1, 5, 48]), (15, [4]), (16, [4])] }
def F159 : FA := { n := 18, sh := [.one (.ag [.sl [], .sl []]), vi, .one (.ptr 2 0), vj, vi, .one (.ptr 2 0), vl, vi, vi, vi, vb, .one (.ptr 2 1), vl, vi, vi, vi, vb, vi], obs := [(2, [.sl [], .sl []])], tk := [6, 7, 12, 13, 17], keep := [(0, [1, 2]), (1, [1, 2]), (2, [1, 2, 10]), (3, [4]), (4, [1]), (5, [1, 16]), (6, [4]), (7, [4])] }
def F160 : FA := { n := 20, sh := [vl, vs, vj, vj, vi, vi, vi, vl, vi, vb, vi, vi, vl, vi, .one (.cp tl0), .one (.cp [.str []]), vs, vs, vb, vi], obs := [], tk := [10, 19], keep := [(0, [0, 1]), (1, [0, 1, 5]), (2, [0, 1, 5, 9]), (3, [0, 1, 5]), (4, [0, 1, 5, 18]), (5, [4]), (6, [4])] }
def F161 : FA := { n := 27, sh := [.one (.ag tl1), .one (.ptr 1 0), .one (.ptr 2 0), .one (.ptr 3 0), vi, .one (.ag tl1), vl, .one (.ptr 3 3), vi, .one (.ptr 1 3), vl, vi, vb, vi, vi, .one (.ptr 3 3), vl, .one (.ptr 1 3), vl, vi, .one (.cp tl1), .one (.ag tl1), .one (.ag tl1), vl, vl, .one (.ptr 3 3), .one (.ag tl1)], obs := [(1, tl1), (2, tl1), (3, tl1)], tk := [13, 16, 26], dp := [6, 23, 24], keep := [(0, [1, 2]), (1, [1, 2, 3]), (2, [1, 2, 3]), (3, [1, 2, 3, 4]), (4, [1, 2, 3, 4, 12]), (5, [1, 2, 3, 4]), (6, [1, 2, 3, 4]), (7, [2])] }
def F162 : FA := { n := 13, sh := [.one (.ag [.sl [], .sl []]), .one (.ptr 1 0), .one (.ptr 2 0), .one (.ptr 3 0), .one (.ptr 1 0), vl, vl, .one (.ptr 3 0), .one (.ptr 1 1), vl, vl, .one (.ptr 3 1), .one (.ag [.sl [], .sl []])], obs := [(1, [.sl [], .sl []]), (2, [.sl [], .sl []]), (3, [.sl [], .sl []])], tk := [5, 9, 12], keep := [(0, [1, 2]), (1, [1, 2, 3]), (2, [1, 2, 3]), (3, [2, 3]), (4, [2])] }
def F163 : FA := { n := 8, sh := [vl, vs, vj, .one (.ptr 3 0), vi, vl, .one (.fn 220 [(3, 0)]), vi], obs := [(3, [.str []])], tk := [5], keep := [(0, [0, 3]), (1, [4])] }
def F164 : FA := { n := 0, sh := [], obs := [], lb := some ([[[.F]]], [[.U 4]], false) }
def F165 : FA := { n := 29, sh := [.one (.ag tl1), .one (.ptr 1 0), .one (.ptr 2 0), .one (.ptr 3 0), vj, .one (.ptr 5 0), .one (.ptr 1 0), vi, .one (.ptr 1 1), vi, .one (.ptr 1 2), vs, .one (.ag tl1), .one (.ptr 1 3), vl, vi, vi, vb, .one (.cp tl1), .one (.ag tl1), .one (.ptr 3 3), vl, .one (.ag tl1), .one (.ag tl1), vl, vl, .one (.ptr 3 3), vi, .one (.ag tl1)], obs := [(1, tl1), (2, tl1), (3, tl1), (5, tl1)], tk := [7, 9, 11, 14, 16, 21, 22, 28], dp := [24, 25], keep := [(0, [1, 2]), (1, [1, 2, 3]), (2, [2, 3, 14, 15, 16]), (3, [2, 3, 14, 15, 16, 17]), (4, [2, 3, 5, 14, 15, 16]), (5, [2, 3, 14, 15, 16]), (6, [2, 3, 14, 15, 16]), (7, [2])] }
def F166 : FA := { n := 26, sh := [.one (.ag tl2), .one (.ag tl2), .one (.ptr 2 0), .one (.ptr 3 0), vb, .one (.ptr 2 0), vs, .one (.ptr 3 0), vs, vb, .one (.ptr 2 1), vi, .one (.ptr 3 1), vi, vb, .one (.ptr 2 2), vi, .one (.ptr 3 2), vi, vb, .one (.ptr 2 3), vl, .one (.ptr 3 3), vl, vb, vb], obs := [(2, tl2), (3, tl2)], tk := [6, 8, 11, 13, 16, 18, 21, 23], keep := [(0, [2, 3]), (1, [2, 3, 9]), (2, [4]), (3, [2, 3, 14]), (4, [4]), (5, [2, 3, 19]), (6, [4]), (7, [25]), (8, [4]), (9, [4])] }
def F167 : FA := { n := 26, sh := [.one (.ag tl1), .one (.ag tl1), .one (.ptr 2 0), .one (.ptr 3 0), vb, .one (.ptr 2 0), vi, .one (.ptr 3 0), vi, vb, .one (.ptr 2 1), vi, .one (.ptr 3 1), vi, vb, .one (.ptr 2 2), vs, .one (.ptr 3 2), vs, vb, .one (.ptr 2 3), vl, .one (.ptr 3 3), vl, vb, vb], obs := [(2, tl1), (3, tl1)], tk := [6, 8, 11, 13, 16, 18, 21, 23], keep := [(0, [2, 3]), (1, [2, 3, 9]), (2, [4]), (3, [2, 3, 14]), (4, [4]), (5, [2, 3, 19]), (6, [4]), (7, [25]), (8, [4]), (9, [4])] }
def F168 : FA := { n := 42, sh := [vl, vi, vj, vj, vi, vi, vi, vl, vi, vb, vi, vi, .one (.al (.s 0 0 0) []), vi, vi, .one (.pp (.s 0 0 0) [] 0 0), .one (.pp (.s 0 0 0) [] 0 0), vi, vi, .one (.al (.s 0 0 0) []), vi, vi, .one (.pp (.s 0 0 0) [] 0 0), .one (.pp (.s 0 0 0) [] 0 1), vi, vi, .one (.al (.s 0 0 0) []), vi, vi, vs, .one (.pp (.s 0 0 0) [] 0 0), .one (.pp (.s 0 0 0) [] 0 2), vi, vi, .one (.al (.s 0 0 0) []), vi, vi, .one (.pp (.s 0 0 0) [] 0 0), .one (.pp (.s 0 0 0) [] 0 3), vi, vi, vi], obs := [], al := [12, 19, 26, 34], tk := [10, 17, 24, 32, 39, 41], keep := [(0, [0, 1]), (1, [0, 1, 5]), (2, [0, 1, 5, 9]), (3, [0, 1, 5]), (4, [0, 1, 5]), (5, [0, 1, 5]), (6, [0, 1, 5]), (7, [0, 1, 5]), (8, [0, 1, 5]), (9, [0, 1, 5]), (10, [0, 1, 5]), (11, [0, 1, 5]), (12, [0, 4])], io := some 0 }
def F169 : FA := { n := 50, sh := [vl, vi, vj, vj, vi, vi, vi, vl, vi, vb, vi, vi, vl, vi, .one (.cp tl4), .one (.cp [.int .i64 0]), vi, vi, vb, vi, vi, vl, vi, .one (.cp tl4), .one (.cp [.int .i64 0]), vi, vi, vb, vi, vi, vl, vi, .one (.cp tl4), .one (.cp [.str []]), vs, vi, vs, vb, vi, vi, vl, vi, .one (.cp tl4), .one (.cp [.int .i64 0]), vi, vi, vb, vi, vi, vi], obs := [], tk := [10, 19, 28, 38, 47, 49], keep := [(0, [0, 1]), (1, [0, 1, 5]), (2, [0, 1, 5, 9]), (3, [0, 1, 5]), (4, [0, 1, 5, 18]), (5, [4]), (6, [0, 1, 5]), (7, [0, 1, 5, 27]), (8, [4]), (9, [0, 1, 5]), (10, [0, 1, 5, 37]), (11, [4]), (12, [0, 1, 5]), (13, [0, 1, 5, 46]), (14, [4]), (15, [0, 1, 5]), (16, [4])] }
def F215 : FA := { n := 27, sh := [vl, vi, vj, vj, vi, vi, vi, vl, vi, vi, vi, vb, vi, vl, vi, vb, vi, vi, vl, vi, .one (.cp tl2), .one (.ag tl2), vi, vi, vi, vb, vi], obs := [], tk := [6, 16, 22, 26], keep := [(0, [0, 1]), (1, [0, 1]), (2, [0, 1, 11]), (3, [4]), (4, [0, 1, 5]), (5, [0, 1, 5, 15]), (6, [0, 1, 5]), (7, [0, 1, 5]), (8, [0, 1, 5, 25]), (9, [4]), (10, [4])] }
def F216 : FA := { n := 27, sh := [vl, vi, vj, vj, vi, vi, vi, vl, vi, vi, vi, vb, vi, vl, vi, vb, vi, vi, vl, vi, .one (.cp tl1), .one (.ag tl1), vi, vi, vi, vb, vi], obs := [], tk := [6, 16, 22, 26], keep := [(0, [0, 1]), (1, [0, 1]), (2, [0, 1, 11]), (3, [4]), (4, [0, 1, 5]), (5, [0, 1, 5, 15]), (6, [0, 1, 5]), (7, [0, 1, 5]), (8, [0, 1, 5, 25]), (9, [4]), (10, [4])] }
def F217 : FA := { n := 23, sh := [vl, vj, vl, vl, vi, vl, vi, vl, vi, vl, vi, vb, vi, vi, .one (.al (.s 3 0 0) []), vi, vl, vi, .one (.cp tl2), .one (.ag tl2), .one (.ag tl2), .one (.pp (.s 3 0 0) [] 0 0), vl], obs := [], al := [14], tk := [12, 22], keep := [(0, [0]), (1, [0, 3]), (2, [0, 3, 4]), (3, [0, 3, 4, 11]), (4, [0, 3, 4]), (5, [0, 3, 4]), (6, [2])] }
def F218 : FA := { n := 23, sh := [vl, vj, vl, vl, vi, vl, vi, vl, vi, vl, vi, vb, vi, vi, .one (.al (.s 3 0 0) []), vi, vl, vi, .one (.cp tl1), .one (.ag tl1), .one (.ag tl1), .one (.pp (.s 3 0 0) [] 0 0), vl], obs := [], al := [14], tk := [12, 22], keep := [(0, [0]), (1, [0, 3]), (2, [0, 3, 4]), (3, [0, 3, 4, 11]), (4, [0, 3, 4]), (5, [0, 3, 4]), (6, [2])] }
def F219 : FA := { n := 19, sh := [vl, .one (.fn 220 [(1000000, 0)]), vj, vj, vi, vi, vl, vi, vi, vb, vi, .one (.fn 220 [(1000000, 0)]), vl, vi, .one (.cp tl0), .one (.ag tl0), vb, vi, vi], obs := [(1000000, [.str []])], tk := [8, 17], keep := [(0, [0, 1]), (1, [0, 1, 7, 8]), (2, [0, 1, 7, 8, 9]), (3, [0, 1, 5, 7, 8]), (4, [0, 1, 5, 7, 8, 16]), (5, [4]), (6, [0, 1, 7, 8]), (7, [4])] }
def F220 : FA := { n := 8, sh := [.one (.ag tl0), .one (.ptr 1000000 0), .one (.ptr 2 0), vb, .one (.ptr 2 0), vs, vs, vb], obs := [(2, tl0), (1000000, [.str []])], tk := [5], keep := [(0, [1, 2]), (1, [3])] }
def F221 : FA := { n := 27, sh := [vl, vl, vj, vj, vb, vi, vl, vi, vl, vi, vb, vi, vl, vi, vb, vi, vi, vl, vi, .one (.cp tl4), .one (.ag tl4), vl, vi, .one (.cp tl4), .one (.ag tl4), vb, vb], obs := [], tk := [15], keep := [(0, [0, 1]), (1, [0, 1, 10]), (2, [4]), (3, [0, 1, 5]), (4, [0, 1, 5, 14]), (5, [0, 1, 5]), (6, [0, 1, 5, 26]), (7, [4]), (8, [4])] }
def F248 : FA := { n := 19, sh := [.one (.ag tl2), vi, .one (.ptr 2 0), vj, vi, vi, .one (.ptr 2 0), vs, vi, vi, vi, vb, .one (.ptr 2 3), vl, vi, vi, vi, vb, vi], obs := [(2, tl2)], tk := [5, 7, 13, 14, 18], keep := [(0, [1, 2]), (1, [1, 2]), (2, [1, 2, 11]), (3, [4]), (4, [1]), (5, [1, 17]), (6, [4]), (7, [4])] }
def F249 : FA := { n := 19, sh := [.one (.ag tl1), vi, .one (.ptr 2 0), vj, vi, vi, .one (.ptr 2 2), vs, vi, vi, vi, vb, .one (.ptr 2 3), vl, vi, vi, vi, vb, vi], obs := [(2, tl1)], tk := [5, 7, 13, 14, 18], keep := [(0, [1, 2]), (1, [1, 2]), (2, [1, 2, 11]), (3, [4]), (4, [1]), (5, [1, 17]), (6, [4]), (7, [4])] }
def F250 : FA := { n := 18, sh := [.one (.ag tl2), .one (.ptr 1 0), .one (.ptr 2 0), .one (.ptr 3 0), .one (.ptr 1 0), vs, .one (.ptr 3 0), .one (.ptr 1 1), vi, .one (.ptr 3 1), .one (.ptr 1 2), vi, .one (.ptr 3 2), .one (.ptr 1 3), vl, vl, .one (.ptr 3 3), .one (.ag tl2)], obs := [(1, tl2), (2, tl2), (3, tl2)], tk := [5, 8, 11, 14, 17], keep := [(0, [1, 2]), (1, [1, 2, 3]), (2, [1, 2, 3]), (3, [1, 2, 3]), (4, [1, 2, 3]), (5, [2, 3]), (6, [2])] }
def F251 : FA := { n := 18, sh := [.one (.ag tl1), .one (.ptr 1 0), .one (.ptr 2 0), .one (.ptr 3 0), .one (.ptr 1 0), vi, .one (.ptr 3 0), .one (.ptr 1 1), vi, .one (.ptr 3 1), .one (.ptr 1 2), vs, .one (.ptr 3 2), .one (.ptr 1 3), vl, vl, .one (.ptr 3 3), .one (.ag tl1)], obs := [(1, tl1), (2, tl1), (3, tl1)], tk := [5, 8, 11, 14, 17], keep := [(0, [1, 2]), (1, [1, 2, 3]), (2, [1, 2, 3]), (3, [1, 2, 3]), (4, [1, 2, 3]), (5, [2, 3]), (6, [2])] }
def F252 : FA := { n := 25, sh := [.one (.ag tl4), .one (.ag tl4), .one (.ptr 2 0), .one (.ptr 3 0), vb, .one (.ptr 2 0), vi, .one (.ptr 3 0), vi, vb, .one (.ptr 2 1), vi, .one (.ptr 3 1), vi, vb, .one (.ptr 2 2), vs, .one (.ptr 3 2), vs, vb, .one (.ptr 2 3), vi, .one (.ptr 3 3), vi, vb], obs := [(2, tl4), (3, tl4)], tk := [6, 8, 11, 13, 16, 18, 21, 23], keep := [(0, [2, 3]), (1, [2, 3, 9]), (2, [4]), (3, [2, 3, 14]), (4, [4]), (5, [2, 3, 19]), (6, [4]), (7, [24]), (8, [4]), (9, [4])] }
def F272 : FA := { n := 27, sh := [vl, vi, vj, vj, vi, vi, vi, vl, vi, vi, vi, vb, vi, vl, vi, vb, vi, vi, vl, vi, .one (.cp tl4), .one (.ag tl4), vi, vi, vi, vb, vi], obs := [], tk := [6, 16, 22, 26], keep := [(0, [0, 1]), (1, [0, 1]), (2, [0, 1, 11]), (3, [4]), (4, [0, 1, 5]), (5, [0, 1, 5, 15]), (6, [0, 1, 5]), (7, [0, 1, 5]), (8, [0, 1, 5, 25]), (9, [4]), (10, [4])] }
def F273 : FA := { n := 23, sh := [vl, vj, vl, vl, vi, vl, vi, vl, vi, vl, vi, vb, vi, vi, .one (.al (.s 3 0 0) []), vi, vl, vi, .one (.cp tl4), .one (.ag tl4), .one (.ag tl4), .one (.pp (.s 3 0 0) [] 0 0), vl], obs := [], al := [14], tk := [12, 22], keep := [(0, [0]), (1, [0, 3]), (2, [0, 3, 4]), (3, [0, 3, 4, 11]), (4, [0, 3, 4]), (5, [0, 3, 4]), (6, [2])] }
def F281 : FA := { n := 13, sh := [.one (.ag tl4), vi, .one (.ptr 2 0), vj, vi, vi, .one (.ptr 2 2), vs, vi, vi, vi, vb, vi], obs := [(2, tl4)], tk := [5, 7, 12], keep := [(0, [1, 2]), (1, [1]), (2, [1, 11]), (3, [4]), (4, [4])] }
def F282 : FA := { n := 17, sh := [.one (.ag tl4), .one (.ptr 1 0), .one (.ptr 2 0), .one (.ptr 3 0), .one (.ptr 1 0), vi, .one (.ptr 3 0), .one (.ptr 1 1), vi, .one (.ptr 3 1), .one (.ptr 1 2), vs, .one (.ptr 3 2), .one (.ptr 1 3), vi, .one (.ptr 3 3), .one (.ag tl4)], obs := [(1, tl4), (2, tl4), (3, tl4)], tk := [5, 8, 11, 14, 16], keep := [(0, [1, 2]), (1, [1, 2, 3]), (2, [1, 2, 3]), (3, [1, 2, 3]), (4, [1, 2, 3]), (5, [2, 3]), (6, [2])] }
def An : FuncId → FA
  | 4 => F4
  | 17 => F17
  | 18 => F18
  | 19 => F19
  | 20 => F20
  | 21 => F21
  | 22 => F22
  | 23 => F23
  | 25 => F25
  | 79 => F79
  | 80 => F80
  | 81 => F81
  | 82 => F82
  | 83 => F83
  | 84 => F84
  | 85 => F85
  | 86 => F86
  | 87 => F87
  | 88 => F88
  | 89 => F89
  | 90 => F90
  | 91 => F91
  | 92 => F92
  | 159 => F159
  | 160 => F160
  | 161 => F161
  | 162 => F162
  | 163 => F163
  | 164 => F164
  | 165 => F165
  | 166 => F166
  | 167 => F167
  | 168 => F168
  | 169 => F169
  | 215 => F215
  | 216 => F216
  | 217 => F217
  | 218 => F218
  | 219 => F219
  | 220 => F220
  | 221 => F221
  | 248 => F248
  | 249 => F249
  | 250 => F250
  | 251 => F251
  | 252 => F252
  | 272 => F272
  | 273 => F273
  | 281 => F281
  | 282 => F282
  | _ => { n := 0, sh := [], obs := [] }
abbrev sg4 : Sg := { bi := ⟨[(0, [[.F]]), (1, [[.S]]), (2, [[.S]])], []⟩, bo := ⟨[(0, [[.S]])], []⟩, np := 3, ext := false }
abbrev sg17 : Sg := { bi := ⟨[(0, [[.F]]), (1, [[.S]])], []⟩, bo := ⟨[(0, [[.S]])], []⟩, np := 2, ext := false }
abbrev sg18 : Sg := { bi := ⟨[(0, [[.F]]), (1, [[.S]]), (2, [[.S]])], []⟩, bo := ⟨[(0, [[.U 4, .U 4], [.S]])], []⟩, np := 3, ext := false }
abbrev sg19 : Sg := { bi := ⟨[(0, [[.F]])], []⟩, bo := ⟨[(0, [[.U 7]])], []⟩, np := 1, ext := false }
abbrev sg20 : Sg := { bi := ⟨[(0, [[.F]]), (1, [[.S]]), (2, [[.S]])], []⟩, bo := ⟨[(0, [[.U 4, .U 4], [.S]])], []⟩, np := 3, ext := false }
abbrev sg21 : Sg := { bi := ⟨[(0, [[.F, .F]]), (1, [[.F, .F]])], []⟩, bo := ⟨[(0, [[.S]])], []⟩, np := 2, ext := false }
abbrev sg22 : Sg := { bi := ⟨[(0, [[.F]]), (1, [[.F]])], []⟩, bo := ⟨[(0, [[.S]])], []⟩, np := 2, ext := false }
abbrev sg23 : Sg := { bi := ⟨[(0, [[.U 0]]), (1, [[.S]])], []⟩, bo := ⟨[(0, [[.S]]), (1, [[.U 0]])], []⟩, np := 2, io := some 0 }
abbrev sg25 : Sg := { bi := ⟨[(0, [[.F, .F]]), (1, [[.S]])], []⟩, bo := ⟨[(0, [[.S]])], []⟩, np := 2, ext := false }
abbrev sg79 : Sg := { bi := ⟨[(0, [[.S, .S, .F, .F, .S, .F, .F]]), (1, [[.S]])], []⟩, bo := ⟨[(0, [[.S]])], []⟩, np := 2, ext := false }
abbrev sg80 : Sg := { bi := ⟨[(0, [[.F]]), (1, [[.S]]), (2, [[.S]])], []⟩, bo := ⟨[(0, [[.F, .F], [.S]])], []⟩, np := 3 }
abbrev sg81 : Sg := { bi := ⟨[(0, [[.F, .F]])], []⟩, bo := ⟨[(0, [[.U 4, .U 4]])], []⟩, np := 1, ext := false }
abbrev sg82 : Sg := { bi := ⟨[(0, [[.S, .S, .F, .F, .S, .F, .F]])], []⟩, bo := ⟨[(0, [[.S, .S, .U 4, .U 4, .S, .U 4, .U 4]])], []⟩, np := 1, ext := false }
abbrev sg83 : Sg := { bi := ⟨[(0, [[.F]]), (1, [[.S]]), (2, [[.S]])], []⟩, bo := ⟨[(0, [[.F]])], []⟩, np := 3 }
abbrev sg84 : Sg := { bi := ⟨[(0, [[.F, .F]])], []⟩, bo := ⟨[(0, [[.U 4, .U 4]])], []⟩, np := 1, ext := false }
abbrev sg85 : Sg := { bi := ⟨[(0, [[.F]]), (1, [[.F]])], []⟩, bo := ⟨[(0, [[.S]])], []⟩, np := 2, ext := false }
abbrev sg86 : Sg := { bi := ⟨[(0, [[.F]]), (1, [[.F]])], []⟩, bo := ⟨[(0, [[.S]])], []⟩, np := 2, ext := false }
abbrev sg87 : Sg := { bi := ⟨[(0, [[.S, .S, .F, .F, .S, .F, .F]]), (1, [[.S, .S, .F, .F, .S, .F, .F]])], []⟩, bo := ⟨[(0, [[.S]])], []⟩, np := 2, ext := false }
abbrev sg88 : Sg := { bi := ⟨[(0, [[.S]])], []⟩, bo := ⟨[(0, [[.S]])], []⟩, np := 1, ext := false }
abbrev sg89 : Sg := { bi := ⟨[(0, [[.U 0]]), (1, [[.S]])], []⟩, bo := ⟨[(0, [[.S]]), (1, [[.U 0]])], []⟩, np := 2, io := some 0 }
abbrev sg90 : Sg := { bi := ⟨[(0, [[.U 0]]), (1, [[.S]])], []⟩, bo := ⟨[(0, [[.S]]), (1, [[.U 0]])], []⟩, np := 2, io := some 0 }
abbrev sg91 : Sg := { bi := ⟨[(0, [[.F]]), (1, [[.S]])], []⟩, bo := ⟨[(0, [[.S]])], []⟩, np := 2, ext := false }
abbrev sg92 : Sg := { bi := ⟨[(0, [[.F]]), (1, [[.S]])], []⟩, bo := ⟨[(0, [[.S]])], []⟩, np := 2, ext := false }
abbrev sg159 : Sg := { bi := ⟨[(0, [[.F, .F]]), (1, [[.S]])], []⟩, bo := ⟨[(0, [[.S]])], []⟩, np := 2, ext := false }
abbrev sg160 : Sg := { bi := ⟨[(0, [[.F]]), (1, [[.S]])], []⟩, bo := ⟨[(0, [[.S]])], []⟩, np := 2, ext := false }
abbrev sg161 : Sg := { bi := ⟨[(0, [[.S, .S, .S, .F]])], []⟩, bo := ⟨[(0, [[.S, .S, .S, .U 4]])], []⟩, np := 1, ext := false }
abbrev sg162 : Sg := { bi := ⟨[(0, [[.F, .F]])], []⟩, bo := ⟨[(0, [[.U 4, .U 4]])], []⟩, np := 1, ext := false }
abbrev sg163 : Sg := { bi := ⟨[(0, [[.F]]), (1, [[.S]])], []⟩, bo := ⟨[(0, [[.S]])], []⟩, np := 2, ext := false }
abbrev sg164 : Sg := { bi := ⟨[(0, [[.F]])], []⟩, bo := ⟨[(0, [[.U 4]])], []⟩, np := 1, ext := false }
abbrev sg165 : Sg := { bi := ⟨[(0, [[.S, .S, .S, .F]])], []⟩, bo := ⟨[(0, [[.S, .S, .S, .U 4]])], []⟩, np := 1, ext := false }
abbrev sg166 : Sg := { bi := ⟨[(0, [[.S, .S, .S, .F]]), (1, [[.S, .S, .S, .F]])], []⟩, bo := ⟨[(0, [[.S]])], []⟩, np := 2, ext := false }
abbrev sg167 : Sg := { bi := ⟨[(0, [[.S, .S, .S, .F]]), (1, [[.S, .S, .S, .F]])], []⟩, bo := ⟨[(0, [[.S]])], []⟩, np := 2, ext := false }
abbrev sg168 : Sg := { bi := ⟨[(0, [[.U 0]]), (1, [[.S]])], []⟩, bo := ⟨[(0, [[.S]]), (1, [[.U 0]])], []⟩, np := 2, io := some 0 }
abbrev sg169 : Sg := { bi := ⟨[(0, [[.F]]), (1, [[.S]])], []⟩, bo := ⟨[(0, [[.S]])], []⟩, np := 2, ext := false }
abbrev sg215 : Sg := { bi := ⟨[(0, [[.F]]), (1, [[.S]])], []⟩, bo := ⟨[(0, [[.S]])], []⟩, np := 2, ext := false }
abbrev sg216 : Sg := { bi := ⟨[(0, [[.F]]), (1, [[.S]])], []⟩, bo := ⟨[(0, [[.S]])], []⟩, np := 2, ext := false }
abbrev sg217 : Sg := { bi := ⟨[(0, [[.F]])], []⟩, bo := ⟨[(0, [[.U 4]])], []⟩, np := 1, ext := false }
abbrev sg218 : Sg := { bi := ⟨[(0, [[.F]])], []⟩, bo := ⟨[(0, [[.U 4]])], []⟩, np := 1, ext := false }
abbrev sg219 : Sg := { bi := ⟨[(0, [[.F]]), (1, [[.S]])], [(1000000, [.S])]⟩, bo := ⟨[(0, [[.S]])], [(1000000, [.S])]⟩, np := 2, ext := false, no := 1 }
abbrev sg220 : Sg := { bi := ⟨[(0, [[.S, .S, .F, .F, .S, .F, .F]]), (1, [[.S]])], [(1000000, [.S])]⟩, bo := ⟨[(0, [[.S]])], [(1000000, [.S])]⟩, np := 2, ext := false, no := 1 }
abbrev sg221 : Sg := { bi := ⟨[(0, [[.F]]), (1, [[.F]])], []⟩, bo := ⟨[(0, [[.S]])], []⟩, np := 2, ext := false }
abbrev sg248 : Sg := { bi := ⟨[(0, [[.S, .S, .S, .F]]), (1, [[.S]])], []⟩, bo := ⟨[(0, [[.S]])], []⟩, np := 2, ext := false }
abbrev sg249 : Sg := { bi := ⟨[(0, [[.S, .S, .S, .F]]), (1, [[.S]])], []⟩, bo := ⟨[(0, [[.S]])], []⟩, np := 2, ext := false }
abbrev sg250 : Sg := { bi := ⟨[(0, [[.S, .S, .S, .F]])], []⟩, bo := ⟨[(0, [[.S, .S, .S, .U 4]])], []⟩, np := 1, ext := false }
abbrev sg251 : Sg := { bi := ⟨[(0, [[.S, .S, .S, .F]])], []⟩, bo := ⟨[(0, [[.S, .S, .S, .U 4]])], []⟩, np := 1, ext := false }
abbrev sg252 : Sg := { bi := ⟨[(0, [[.S, .S, .S, .S]]), (1, [[.S, .S, .S, .S]])], []⟩, bo := ⟨[(0, [[.S]])], []⟩, np := 2, ext := false }
abbrev sg272 : Sg := { bi := ⟨[(0, [[.F]]), (1, [[.S]])], []⟩, bo := ⟨[(0, [[.S]])], []⟩, np := 2, ext := false }
abbrev sg273 : Sg := { bi := ⟨[(0, [[.F]])], []⟩, bo := ⟨[(0, [[.U 4]])], []⟩, np := 1, ext := false }
abbrev sg281 : Sg := { bi := ⟨[(0, [[.S, .S, .S, .S]]), (1, [[.S]])], []⟩, bo := ⟨[(0, [[.S]])], []⟩, np := 2, ext := false }
abbrev sg282 : Sg := { bi := ⟨[(0, [[.S, .S, .S, .S]])], []⟩, bo := ⟨[(0, [[.S, .S, .S, .S]])], []⟩, np := 1, ext := false }
def Sgs : FuncId → List Sg
  | 4 => [sg4]
  | 17 => [sg17]
  | 18 => [sg18]
  | 19 => [sg19]
  | 20 => [sg20]
  | 21 => [sg21]
  | 22 => [sg22]
  | 23 => [sg23]
  | 25 => [sg25]
  | 79 => [sg79]
  | 80 => [sg80]
  | 81 => [sg81]
  | 82 => [sg82]
  | 83 => [sg83]
  | 84 => [sg84]
  | 85 => [sg85]
  | 86 => [sg86]
  | 87 => [sg87]
  | 88 => [sg88]
  | 89 => [sg89]
  | 90 => [sg90]
  | 91 => [sg91]
  | 92 => [sg92]
  | 159 => [sg159]
  | 160 => [sg160]
  | 161 => [sg161]
  | 162 => [sg162]
  | 163 => [sg163]
  | 164 => [sg164]
  | 165 => [sg165]
  | 166 => [sg166]
  | 167 => [sg167]
  | 168 => [sg168]
  | 169 => [sg169]
  | 215 => [sg215]
  | 216 => [sg216]
  | 217 => [sg217]
  | 218 => [sg218]
  | 219 => [sg219]
  | 220 => [sg220]
  | 221 => [sg221]
  | 248 => [sg248]
  | 249 => [sg249]
  | 250 => [sg250]
  | 251 => [sg251]
  | 252 => [sg252]
  | 272 => [sg272]
  | 273 => [sg273]
  | 281 => [sg281]
  | 282 => [sg282]
  | _ => []
end Go.Own
