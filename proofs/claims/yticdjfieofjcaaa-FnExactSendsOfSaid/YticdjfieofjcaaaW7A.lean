/- What is told of the functions: shapes and kinds. No conditions. -/
import Derived.Test.YticdjfieofjcaaaProg
import Derived.KernelRfl
import Derived.Test.YticdjfieofjcaaaOwn3
set_option linter.unusedVariables false
set_option linter.unusedSimpArgs false
set_option linter.unnecessarySimpa false
namespace Go.Own
open Go Go.Proofs
def τ : TypeId → Option TI
  | 3 => some { size := 1, bytes := 8, zero := [.int .i64 0], agg := false, kind := .int .i64 }
  | 4 => some { size := 1, bytes := 1, zero := [.bool false], agg := false, kind := .bool }
  | 5 => some { size := 1, bytes := 1, zero := [.int .u8 0], agg := false, kind := .int .u8 }
  | 9 => some { size := 1, bytes := 16, zero := [.str []], agg := false, kind := .str }
  | 27 => some { size := 1, bytes := 24, zero := [.sl []], agg := false, kind := .sl 5 }
  | 31 => some { size := 1, bytes := 24, zero := [.sl []], agg := false, kind := .sl 33 }
  | 33 => some { size := 4, bytes := 56, zero := [.int .i64 0, .int .i64 0, .str [], .sl []], agg := true, kind := .struct [(0, 1, false), (1, 1, false), (2, 1, false), (3, 1, false)] }
  | 35 => some { size := 1, bytes := 24, zero := [.sl []], agg := false, kind := .sl 40 }
  | 40 => some { size := 8, bytes := 112, zero := [.int .i64 0, .int .i64 0, .str [], .sl [], .int .i64 0, .int .i64 0, .str [], .sl []], agg := true, kind := .struct [(0, 4, true), (4, 4, true)] }
  | 41 => some { size := 1, bytes := 24, zero := [.sl []], agg := false, kind := .sl 43 }
  | 43 => some { size := 4, bytes := 56, zero := [.int .i64 0, .int .i64 0, .str [], .sl []], agg := true, kind := .struct [(0, 1, false), (1, 1, false), (2, 1, false), (3, 1, false)] }
  | _ => none
set_option maxRecDepth 100000 in
theorem tables : Tables Try.prog τ := by
  intro t i h
  unfold τ at h
  split at h <;> (try cases h)
  · exact ⟨_, _, _, rfl, rfl, rfl, rfl, rfl, rfl, rfl, by decide, rfl, rfl⟩
  · exact ⟨_, _, _, rfl, rfl, rfl, rfl, rfl, rfl, rfl, by decide, rfl, rfl⟩
  · exact ⟨_, _, _, rfl, rfl, rfl, rfl, rfl, rfl, rfl, by decide, rfl, rfl⟩
  · exact ⟨_, _, _, rfl, rfl, rfl, rfl, rfl, rfl, rfl, by decide, rfl, rfl⟩
  · exact ⟨_, _, _, rfl, rfl, rfl, rfl, rfl, rfl, rfl, by decide, rfl, rfl⟩
  · exact ⟨_, _, _, rfl, rfl, rfl, rfl, rfl, rfl, rfl, by decide, rfl, rfl⟩
  · refine ⟨_, _, _, rfl, rfl, rfl, rfl, rfl, rfl, rfl, by decide, rfl, _, rfl, rfl, fun j f hf => ?_⟩
    match j with
    | 0 => simp at hf; subst hf; exact ⟨_, _, rfl, rfl, rfl, rfl, by decide, rfl, rfl⟩
    | 1 => simp at hf; subst hf; exact ⟨_, _, rfl, rfl, rfl, rfl, by decide, rfl, rfl⟩
    | 2 => simp at hf; subst hf; exact ⟨_, _, rfl, rfl, rfl, rfl, by decide, rfl, rfl⟩
    | 3 => simp at hf; subst hf; exact ⟨_, _, rfl, rfl, rfl, rfl, by decide, rfl, rfl⟩
    | j + 4 => simp at hf
  · exact ⟨_, _, _, rfl, rfl, rfl, rfl, rfl, rfl, rfl, by decide, rfl, rfl⟩
  · refine ⟨_, _, _, rfl, rfl, rfl, rfl, rfl, rfl, rfl, by decide, rfl, _, rfl, rfl, fun j f hf => ?_⟩
    match j with
    | 0 => simp at hf; subst hf; exact ⟨_, _, rfl, rfl, rfl, rfl, by decide, rfl, rfl⟩
    | 1 => simp at hf; subst hf; exact ⟨_, _, rfl, rfl, rfl, rfl, by decide, rfl, rfl⟩
    | j + 2 => simp at hf
  · exact ⟨_, _, _, rfl, rfl, rfl, rfl, rfl, rfl, rfl, by decide, rfl, rfl⟩
  · refine ⟨_, _, _, rfl, rfl, rfl, rfl, rfl, rfl, rfl, by decide, rfl, _, rfl, rfl, fun j f hf => ?_⟩
    match j with
    | 0 => simp at hf; subst hf; exact ⟨_, _, rfl, rfl, rfl, rfl, by decide, rfl, rfl⟩
    | 1 => simp at hf; subst hf; exact ⟨_, _, rfl, rfl, rfl, rfl, by decide, rfl, rfl⟩
    | 2 => simp at hf; subst hf; exact ⟨_, _, rfl, rfl, rfl, rfl, by decide, rfl, rfl⟩
    | 3 => simp at hf; subst hf; exact ⟨_, _, rfl, rfl, rfl, rfl, by decide, rfl, rfl⟩
    | j + 4 => simp at hf
abbrev vi : V := .one (.c (.int .i64 0))
abbrev vy : V := .one (.c (.int .u8 0))
abbrev vb : V := .one (.c (.bool false))
abbrev vl : V := .one (.c (.sl []))
abbrev vs : V := .one (.c (.str []))
abbrev vj : V := .one .junk

def F7 : FA := { n := 96, sh := [.one (.ag [.int .i64 0, .int .i64 0, .str [], .sl []]), .one (.ptr 1 0), vb, vi, vl, vb, .one (.ptr 6 0), vl, vb, vi, vi, vi, vl, vb, .one (.ag [.int .i64 0, .int .i64 0, .str [], .sl []]), vi, vi, vi, vb, .tup [.c (.sl []), .c (.bool false)], .one (.ag [.int .i64 0, .int .i64 0, .str [], .sl []]), .one (.ag [.int .i64 0, .int .i64 0, .str [], .sl []]), .tup [.c (.sl []), .c (.bool false)], vl, vb, .one (.ag [.int .i64 0, .int .i64 0, .str [], .sl []]), .one (.ag [.int .i64 0, .int .i64 0, .str [], .sl []]), .tup [.c (.sl []), .c (.bool false)], .one (.ag [.int .i64 0, .int .i64 0, .str [], .sl []]), .tup [.c (.sl []), .c (.bool false)], vl, vb, vl, vl, vb, vb, vb, vb, vb, vb, vb, .one (.ag [.int .i64 0, .int .i64 0, .str [], .sl []]), .one (.ag [.int .i64 0, .int .i64 0, .str [], .sl []]), .one (.ag [.int .i64 0, .int .i64 0, .str [], .sl []]), vb, vb, .one (.ag [.int .i64 0, .int .i64 0, .str [], .sl []]), vi, vi, vi, vb, vb, vl, vl, vb, vb, vb, vb, vb, vb, vb, vb, .one (.al (.s 7 0 0) []), vi, vi, vl, vi, vi, vi, vb, vi, vi, vb, .tup [.c (.sl []), .c (.bool false)], .one (.ag [.int .i64 0, .int .i64 0, .str [], .sl []]), .one (.ag [.int .i64 0, .int .i64 0, .str [], .sl []]), .tup [.c (.sl []), .c (.bool false)], vl, vb, vl, vl, vb, vb, vb, vb, vb, vb, vb, vl, vi, vi, vi, vb, vi, vi, vb], obs := [(1, [.int .i64 0, .int .i64 0, .str [], .sl []]), (6, [.int .i64 0, .int .i64 0, .str [], .sl []])], al := [62], tk := [15, 17, 19, 27, 36, 46, 47, 49, 51, 57, 58, 63, 66, 70, 73, 74, 79, 80, 83, 84, 85, 88, 89, 93, 94], keep := [(0, [1]), (1, [1, 3]), (2, [1, 3]), (3, [1, 18]), (4, [2]), (5, [1, 4, 5]), (6, [1, 4, 5, 6]), (7, [1, 4, 5, 6, 7, 8]), (8, [1, 4, 5, 6, 7, 8, 40]), (9, [2]), (10, [1, 4, 5, 6, 7, 8, 45]), (11, [2]), (12, [1, 4, 5, 6, 7, 8, 9]), (13, [1, 4, 5, 7, 8, 9]), (14, [1, 4, 5, 7, 61]), (15, [2]), (16, [1, 4, 5, 7, 10]), (17, [1, 4, 5, 7, 10]), (18, [1, 4, 5, 7, 10, 11]), (19, [1, 4, 5, 7, 10, 11]), (20, [1, 4, 5, 7, 10, 11, 69]), (21, [2]), (22, [1, 4, 5, 7, 10, 72]), (23, [2]), (24, [4, 5, 7, 10, 12, 13]), (25, [7, 10, 87]), (26, [2]), (27, [7, 10, 11]), (28, [10, 11]), (29, [10, 11, 92]), (30, [2]), (31, [95]), (32, [2]), (33, [2])], ioa := [62] }
def F21 : FA := { n := 50, sh := [.one (.ag [.int .i64 0, .int .i64 0, .str [], .sl []]), .one (.ptr 1 0), vl, vb, vl, vj, .one (.ptr 6 0), .one (.ptr 1 0), vi, vb, .one (.ptr 1 3), vl, vi, vi, vb, .one (.cp [.int .i64 0, .int .i64 0, .str [], .sl []]), .one (.ag [.int .i64 0, .int .i64 0, .str [], .sl []]), .one (.ptr 6 0), vi, vb, vb, .one (.ptr 6 3), vl, vi, vb, vb, vb, .one (.ptr 6 3), vl, .one (.cp [.int .i64 0, .int .i64 0, .str [], .sl []]), .one (.ag [.int .i64 0, .int .i64 0, .str [], .sl []]), vb, vb, vb, vl, .one (.ptr 6 3), vl, .one (.cp [.int .i64 0, .int .i64 0, .str [], .sl []]), .one (.ag [.int .i64 0, .int .i64 0, .str [], .sl []]), .one (.ag [.int .i64 0, .int .i64 0, .str [], .sl []]), .one (.ptr 6 3), vl, .one (.cp [.int .i64 0, .int .i64 0, .str [], .sl []]), .one (.ag [.int .i64 0, .int .i64 0, .str [], .sl []]), .one (.ag [.int .i64 0, .int .i64 0, .str [], .sl []]), .one (.ag [.int .i64 0, .int .i64 0, .str [], .sl [], .int .i64 0, .int .i64 0, .str [], .sl []]), vl, vl, vi, vl], obs := [(1, [.int .i64 0, .int .i64 0, .str [], .sl []]), (6, [.int .i64 0, .int .i64 0, .str [], .sl []])], tk := [8, 11, 13, 18, 20, 26, 34, 41, 49], dp := [46, 47], keep := [(0, [1]), (1, [1, 9]), (2, [2, 3]), (3, [1, 4]), (4, [4, 11, 12, 13]), (5, [4, 11, 12, 13, 14]), (6, [4, 6, 11, 12, 13]), (7, [4, 6, 11, 12, 13, 33]), (8, [2, 3]), (9, [4, 11, 12, 13]), (10, [4, 11, 12, 13]), (11, [2, 3])] }
def F22 : FA := { n := 65, sh := [.one (.ag [.int .i64 0, .int .i64 0, .str [], .sl []]), .one (.ptr 1 0), vl, vb, vl, vi, .one (.ptr 6 0), vl, .one (.ptr 1 0), vi, vb, vl, vi, .one (.ptr 1 3), vl, vi, vb, vi, vi, .one (.ptr 1 3), vl, vi, .one (.cp [.int .i64 0, .int .i64 0, .str [], .sl []]), .one (.ag [.int .i64 0, .int .i64 0, .str [], .sl []]), .one (.ptr 6 0), vi, vb, vb, .one (.ptr 6 3), vl, vi, vb, vb, vb, .one (.ptr 6 3), vl, .one (.cp [.int .i64 0, .int .i64 0, .str [], .sl []]), .one (.cp [.int .i64 0, .int .i64 0, .str [], .sl []]), vi, vb, vb, .one (.ptr 6 3), vl, .one (.cp [.int .i64 0, .int .i64 0, .str [], .sl []]), .one (.cp [.int .i64 0, .int .i64 0, .str [], .sl []]), vi, vb, vb, vb, vl, vl, .one (.ptr 6 3), vl, .one (.cp [.int .i64 0, .int .i64 0, .str [], .sl []]), .one (.ag [.int .i64 0, .int .i64 0, .str [], .sl []]), .one (.ag [.int .i64 0, .int .i64 0, .str [], .sl []]), .one (.ptr 6 3), vl, .one (.cp [.int .i64 0, .int .i64 0, .str [], .sl []]), .one (.ag [.int .i64 0, .int .i64 0, .str [], .sl []]), .one (.ag [.int .i64 0, .int .i64 0, .str [], .sl []]), .one (.ag [.int .i64 0, .int .i64 0, .str [], .sl [], .int .i64 0, .int .i64 0, .str [], .sl []]), vl, vl, vl], obs := [(1, [.int .i64 0, .int .i64 0, .str [], .sl []]), (6, [.int .i64 0, .int .i64 0, .str [], .sl []])], tk := [9, 11, 17, 25, 27, 33, 40, 50, 57, 64], dp := [7, 49, 62, 63], keep := [(0, [1]), (1, [1, 4]), (2, [1, 4, 10]), (3, [2, 3]), (4, [1, 4, 5]), (5, [1, 4, 5, 16]), (6, [1, 4, 5]), (7, [1, 4, 5, 6]), (8, [1, 4, 5, 6, 48]), (9, [2, 3]), (10, [1, 4, 5]), (11, [2, 3])] }
def F29 : FA := { n := 19, sh := [.one (.ag [.int .i64 0, .int .i64 0, .str [], .sl []]), vi, .one (.ptr 2 0), vj, vi, vi, .one (.ptr 2 2), vs, vi, vi, vi, vb, .one (.ptr 2 3), vl, vi, vi, vi, vb, vi], obs := [(2, [.int .i64 0, .int .i64 0, .str [], .sl []])], tk := [5, 7, 13, 14, 18], keep := [(0, [1, 2]), (1, [1, 2]), (2, [1, 2, 11]), (3, [4]), (4, [1]), (5, [1, 17]), (6, [4]), (7, [4])] }
def F30 : FA := { n := 18, sh := [.one (.ag [.int .i64 0, .int .i64 0, .str [], .sl []]), .one (.ptr 1 0), .one (.ptr 2 0), .one (.ptr 3 0), .one (.ptr 1 0), vi, .one (.ptr 3 0), .one (.ptr 1 1), vi, .one (.ptr 3 1), .one (.ptr 1 2), vs, .one (.ptr 3 2), .one (.ptr 1 3), vl, vl, .one (.ptr 3 3), .one (.ag [.int .i64 0, .int .i64 0, .str [], .sl []])], obs := [(1, [.int .i64 0, .int .i64 0, .str [], .sl []]), (2, [.int .i64 0, .int .i64 0, .str [], .sl []]), (3, [.int .i64 0, .int .i64 0, .str [], .sl []])], tk := [5, 8, 11, 14, 17], keep := [(0, [1, 2]), (1, [1, 2, 3]), (2, [1, 2, 3]), (3, [1, 2, 3]), (4, [1, 2, 3]), (5, [2, 3]), (6, [2])] }
def F31 : FA := { n := 27, sh := [vl, vl, vj, vj, vb, vi, vl, vi, vl, vi, vb, vi, vl, vi, vb, vi, vi, vl, vi, .one (.cp [.int .i64 0, .int .i64 0, .str [], .sl [], .int .i64 0, .int .i64 0, .str [], .sl []]), .one (.ag [.int .i64 0, .int .i64 0, .str [], .sl [], .int .i64 0, .int .i64 0, .str [], .sl []]), vl, vi, .one (.cp [.int .i64 0, .int .i64 0, .str [], .sl [], .int .i64 0, .int .i64 0, .str [], .sl []]), .one (.ag [.int .i64 0, .int .i64 0, .str [], .sl [], .int .i64 0, .int .i64 0, .str [], .sl []]), vb, vb], obs := [], tk := [15], keep := [(0, [0, 1]), (1, [0, 1, 10]), (2, [4]), (3, [0, 1, 5]), (4, [0, 1, 5, 14]), (5, [0, 1, 5]), (6, [0, 1, 5, 26]), (7, [4]), (8, [4])] }
def F32 : FA := { n := 26, sh := [.one (.ag [.int .i64 0, .int .i64 0, .str [], .sl []]), .one (.ag [.int .i64 0, .int .i64 0, .str [], .sl []]), .one (.ptr 2 0), .one (.ptr 3 0), vb, .one (.ptr 2 0), vi, .one (.ptr 3 0), vi, vb, .one (.ptr 2 1), vi, .one (.ptr 3 1), vi, vb, .one (.ptr 2 2), vs, .one (.ptr 3 2), vs, vb, .one (.ptr 2 3), vl, .one (.ptr 3 3), vl, vb, vb], obs := [(2, [.int .i64 0, .int .i64 0, .str [], .sl []]), (3, [.int .i64 0, .int .i64 0, .str [], .sl []])], tk := [6, 8, 11, 13, 16, 18, 21, 23], keep := [(0, [2, 3]), (1, [2, 3, 9]), (2, [4]), (3, [2, 3, 14]), (4, [4]), (5, [2, 3, 19]), (6, [4]), (7, [25]), (8, [4]), (9, [4])] }
def F33 : FA := { n := 10, sh := [.one (.ag [.int .i64 0, .int .i64 0, .str [], .sl []]), vi, .one (.ptr 2 0), vj, vi, .one (.ptr 2 3), .one (.al (.oc 2 3) []), vi, vi, vi], obs := [(2, [.int .i64 0, .int .i64 0, .str [], .sl []])], al := [6], tk := [7, 9], keep := [(0, [1, 2]), (1, [1]), (2, [4])], ioa := [6] }
def F34 : FA := { n := 79, sh := [vl, vi, vj, vj, vi, vi, vi, vl, vi, vb, vi, vi, .one (.al (.s 0 0 0) []), vi, vi, .one (.pp (.s 0 0 0) [] 0 0), .one (.pp (.s 0 0 0) [] 0 0), .one (.pp (.s 0 0 0) [] 0 0), vi, vi, .one (.al (.s 0 0 0) []), vi, vi, .one (.pp (.s 0 0 0) [] 0 0), .one (.pp (.s 0 0 0) [] 0 0), .one (.pp (.s 0 0 0) [] 0 1), vi, vi, .one (.al (.s 0 0 0) []), vi, vi, vs, .one (.pp (.s 0 0 0) [] 0 0), .one (.pp (.s 0 0 0) [] 0 0), .one (.pp (.s 0 0 0) [] 0 2), vi, vi, .one (.al (.s 0 0 0) []), vi, .one (.pp (.s 0 0 0) [] 0 0), .one (.pp (.s 0 0 0) [] 0 0), .one (.pp (.s 0 0 0) [] 0 3), .one (.al (.s 0 0 0) [(0, 0)]), vi, vi, .one (.al (.s 0 0 0) []), vi, vi, .one (.pp (.s 0 0 0) [] 0 0), .one (.pp (.s 0 0 0) [] 0 4), .one (.pp (.s 0 0 0) [] 0 4), vi, vi, .one (.al (.s 0 0 0) []), vi, vi, .one (.pp (.s 0 0 0) [] 0 0), .one (.pp (.s 0 0 0) [] 0 4), .one (.pp (.s 0 0 0) [] 0 5), vi, vi, .one (.al (.s 0 0 0) []), vi, vi, vs, .one (.pp (.s 0 0 0) [] 0 0), .one (.pp (.s 0 0 0) [] 0 4), .one (.pp (.s 0 0 0) [] 0 6), vi, vi, .one (.al (.s 0 0 0) []), vi, .one (.pp (.s 0 0 0) [] 0 0), .one (.pp (.s 0 0 0) [] 0 4), .one (.pp (.s 0 0 0) [] 0 7), .one (.al (.s 0 0 0) [(0, 0)]), vi, vi, vi], obs := [], al := [12, 20, 28, 37, 42, 45, 53, 61, 70, 75], tk := [10, 18, 26, 35, 43, 51, 59, 68, 76, 78], keep := [(0, [0, 1]), (1, [0, 1, 5]), (2, [0, 1, 5, 9]), (3, [0, 1, 5]), (4, [0, 1, 5]), (5, [0, 1, 5]), (6, [0, 1, 5]), (7, [0, 1, 5]), (8, [0, 1, 5]), (9, [0, 1, 5]), (10, [0, 1, 5]), (11, [0, 1, 5]), (12, [0, 1, 5]), (13, [0, 1, 5]), (14, [0, 1, 5]), (15, [0, 1, 5]), (16, [0, 1, 5]), (17, [0, 1, 5]), (18, [0, 4])], io := some 0, ioa := [42, 75] }
def F35 : FA := { n := 95, sh := [vl, vi, vj, vj, vi, vi, vi, vl, vi, vb, vi, vi, vl, vi, .one (.cp [.int .i64 0, .int .i64 0, .str [], .sl [], .int .i64 0, .int .i64 0, .str [], .sl []]), .one (.cp [.int .i64 0, .int .i64 0, .str [], .sl [], .int .i64 0, .int .i64 0, .str [], .sl []]), .one (.cp [.int .i64 0, .int .i64 0, .str [], .sl [], .int .i64 0, .int .i64 0, .str [], .sl []]), vi, vi, vb, vi, vi, vl, vi, .one (.cp [.int .i64 0, .int .i64 0, .str [], .sl [], .int .i64 0, .int .i64 0, .str [], .sl []]), .one (.cp [.int .i64 0, .int .i64 0, .str [], .sl [], .int .i64 0, .int .i64 0, .str [], .sl []]), .one (.cp [.int .i64 0, .str [], .sl [], .int .i64 0, .int .i64 0, .str [], .sl []]), vi, vi, vb, vi, vi, vl, vi, .one (.cp [.int .i64 0, .int .i64 0, .str [], .sl [], .int .i64 0, .int .i64 0, .str [], .sl []]), .one (.cp [.int .i64 0, .int .i64 0, .str [], .sl [], .int .i64 0, .int .i64 0, .str [], .sl []]), .one (.cp [.str [], .sl [], .int .i64 0, .int .i64 0, .str [], .sl []]), vs, vi, vs, vb, vi, vi, vl, vi, .one (.cp [.int .i64 0, .int .i64 0, .str [], .sl [], .int .i64 0, .int .i64 0, .str [], .sl []]), .one (.cp [.int .i64 0, .int .i64 0, .str [], .sl [], .int .i64 0, .int .i64 0, .str [], .sl []]), .one (.cp [.sl [], .int .i64 0, .int .i64 0, .str [], .sl []]), vl, vi, vi, vi, vb, vl, vi, .one (.cp [.int .i64 0, .int .i64 0, .str [], .sl [], .int .i64 0, .int .i64 0, .str [], .sl []]), .one (.cp [.int .i64 0, .int .i64 0, .str [], .sl []]), .one (.cp [.int .i64 0, .int .i64 0, .str [], .sl []]), vi, vi, vb, vi, vi, vl, vi, .one (.cp [.int .i64 0, .int .i64 0, .str [], .sl [], .int .i64 0, .int .i64 0, .str [], .sl []]), .one (.cp [.int .i64 0, .int .i64 0, .str [], .sl []]), .one (.cp [.int .i64 0, .str [], .sl []]), vi, vi, vb, vi, vi, vl, vi, .one (.cp [.int .i64 0, .int .i64 0, .str [], .sl [], .int .i64 0, .int .i64 0, .str [], .sl []]), .one (.cp [.int .i64 0, .int .i64 0, .str [], .sl []]), .one (.cp [.str [], .sl []]), vs, vi, vs, vb, vi, vi, vl, vi, .one (.cp [.int .i64 0, .int .i64 0, .str [], .sl [], .int .i64 0, .int .i64 0, .str [], .sl []]), .one (.cp [.int .i64 0, .int .i64 0, .str [], .sl []]), .one (.cp [.sl []]), vl, vi, vi, vi, vb, vi], obs := [], tk := [10, 20, 30, 41, 49, 61, 71, 82, 90, 94], keep := [(0, [0, 1]), (1, [0, 1, 5]), (2, [0, 1, 5, 9]), (3, [0, 1, 5]), (4, [0, 1, 5, 19]), (5, [4]), (6, [0, 1, 5]), (7, [0, 1, 5, 29]), (8, [4]), (9, [0, 1, 5]), (10, [0, 1, 5, 40]), (11, [4]), (12, [0, 1, 5]), (13, [0, 1, 5]), (14, [0, 1, 5, 52]), (15, [4]), (16, [0, 1, 5, 60]), (17, [4]), (18, [0, 1, 5]), (19, [0, 1, 5, 70]), (20, [4]), (21, [0, 1, 5]), (22, [0, 1, 5, 81]), (23, [4]), (24, [0, 1, 5]), (25, [0, 1, 5]), (26, [0, 1, 5, 93]), (27, [4]), (28, [4])] }
def F64 : FA := { n := 11, sh := [.one (.ag [.int .i64 0, .int .i64 0, .str [], .sl []]), .one (.ptr 1 0), vb, .one (.ptr 1 0), vi, vb, vb, .one (.ptr 1 0), vi, vb, vb], obs := [(1, [.int .i64 0, .int .i64 0, .str [], .sl []])], tk := [6, 8], keep := [(0, [1]), (1, [2])] }
def F65 : FA := { n := 8, sh := [.one (.ag [.int .i64 0, .int .i64 0, .str [], .sl []]), .one (.ptr 1 0), .one (.ptr 2 0), .one (.ptr 1 3), vl, vl, .one (.ptr 1 3), .one (.ag [.int .i64 0, .int .i64 0, .str [], .sl []])], obs := [(1, [.int .i64 0, .int .i64 0, .str [], .sl []]), (2, [.int .i64 0, .int .i64 0, .str [], .sl []])], tk := [4, 7], keep := [(0, [1, 2]), (1, [1, 2]), (2, [2])] }
def F66 : FA := { n := 27, sh := [.one (.ag [.int .i64 0, .int .i64 0, .str [], .sl []]), .one (.ptr 1 0), .one (.ptr 2 0), .one (.ptr 3 0), vi, .one (.ag [.int .i64 0, .int .i64 0, .str [], .sl []]), vl, .one (.ptr 3 3), vi, .one (.ptr 1 3), vl, vi, vb, vi, vi, .one (.ptr 3 3), vl, .one (.ptr 1 3), vl, vi, .one (.cp [.int .i64 0, .int .i64 0, .str [], .sl []]), .one (.ag [.int .i64 0, .int .i64 0, .str [], .sl []]), .one (.ag [.int .i64 0, .int .i64 0, .str [], .sl []]), vl, vl, .one (.ptr 3 3), .one (.ag [.int .i64 0, .int .i64 0, .str [], .sl []])], obs := [(1, [.int .i64 0, .int .i64 0, .str [], .sl []]), (2, [.int .i64 0, .int .i64 0, .str [], .sl []]), (3, [.int .i64 0, .int .i64 0, .str [], .sl []])], tk := [13, 16, 26], dp := [6, 23, 24], keep := [(0, [1, 2]), (1, [1, 2, 3]), (2, [1, 2, 3]), (3, [1, 2, 3, 4]), (4, [1, 2, 3, 4, 12]), (5, [1, 2, 3, 4]), (6, [1, 2, 3, 4]), (7, [2])] }
def F68 : FA := { n := 27, sh := [vl, vi, vj, vj, vi, vi, vi, vl, vi, vi, vi, vb, vi, vl, vi, vb, vi, vi, vl, vi, .one (.cp [.int .i64 0, .int .i64 0, .str [], .sl []]), .one (.ag [.int .i64 0, .int .i64 0, .str [], .sl []]), vi, vi, vi, vb, vi], obs := [], tk := [6, 16, 22, 26], keep := [(0, [0, 1]), (1, [0, 1]), (2, [0, 1, 11]), (3, [4]), (4, [0, 1, 5]), (5, [0, 1, 5, 15]), (6, [0, 1, 5]), (7, [0, 1, 5]), (8, [0, 1, 5, 25]), (9, [4]), (10, [4])] }
def F71 : FA := { n := 23, sh := [vl, vj, vl, vl, vi, vl, vi, vl, vi, vl, vi, vb, vi, vi, .one (.al (.s 3 0 0) []), vi, vl, vi, .one (.cp [.int .i64 0, .int .i64 0, .str [], .sl []]), .one (.ag [.int .i64 0, .int .i64 0, .str [], .sl []]), .one (.ag [.int .i64 0, .int .i64 0, .str [], .sl []]), .one (.pp (.s 3 0 0) [] 0 0), vl], obs := [], al := [14], tk := [12, 22], keep := [(0, [0]), (1, [0, 3]), (2, [0, 3, 4]), (3, [0, 3, 4, 11]), (4, [0, 3, 4]), (5, [0, 3, 4]), (6, [2])] }
def F75 : FA := { n := 27, sh := [vl, vl, vj, vj, vb, vi, vl, vi, vl, vi, vb, vi, vl, vi, vb, vi, vi, vl, vi, .one (.cp [.int .i64 0, .int .i64 0, .str [], .sl []]), .one (.ag [.int .i64 0, .int .i64 0, .str [], .sl []]), vl, vi, .one (.cp [.int .i64 0, .int .i64 0, .str [], .sl []]), .one (.ag [.int .i64 0, .int .i64 0, .str [], .sl []]), vb, vb], obs := [], tk := [15], keep := [(0, [0, 1]), (1, [0, 1, 10]), (2, [4]), (3, [0, 1, 5]), (4, [0, 1, 5, 14]), (5, [0, 1, 5]), (6, [0, 1, 5, 26]), (7, [4]), (8, [4])] }
def F76 : FA := { n := 17, sh := [.one (.ag [.int .i64 0, .int .i64 0, .str [], .sl [], .int .i64 0, .int .i64 0, .str [], .sl []]), .one (.ag [.int .i64 0, .int .i64 0, .str [], .sl [], .int .i64 0, .int .i64 0, .str [], .sl []]), .one (.ptr 2 0), .one (.ptr 3 0), vb, .one (.ptr 2 0), .one (.ag [.int .i64 0, .int .i64 0, .str [], .sl []]), .one (.ptr 3 0), .one (.ag [.int .i64 0, .int .i64 0, .str [], .sl []]), vb, vb, .one (.ptr 2 4), .one (.ag [.int .i64 0, .int .i64 0, .str [], .sl []]), .one (.ptr 3 4), .one (.ag [.int .i64 0, .int .i64 0, .str [], .sl []]), vb, vb], obs := [(2, [.int .i64 0, .int .i64 0, .str [], .sl [], .int .i64 0, .int .i64 0, .str [], .sl []]), (3, [.int .i64 0, .int .i64 0, .str [], .sl [], .int .i64 0, .int .i64 0, .str [], .sl []])], tk := [6, 8, 12, 14], keep := [(0, [2, 3]), (1, [2, 3, 10]), (2, [4]), (3, [16]), (4, [4]), (5, [4])] }
def F77 : FA := { n := 42, sh := [vl, vi, vj, vj, vi, vi, vi, vl, vi, vb, vi, vi, .one (.al (.s 0 0 0) []), vi, vi, .one (.pp (.s 0 0 0) [] 0 0), .one (.pp (.s 0 0 0) [] 0 0), vi, vi, .one (.al (.s 0 0 0) []), vi, vi, .one (.pp (.s 0 0 0) [] 0 0), .one (.pp (.s 0 0 0) [] 0 1), vi, vi, .one (.al (.s 0 0 0) []), vi, vi, vs, .one (.pp (.s 0 0 0) [] 0 0), .one (.pp (.s 0 0 0) [] 0 2), vi, vi, .one (.al (.s 0 0 0) []), vi, .one (.pp (.s 0 0 0) [] 0 0), .one (.pp (.s 0 0 0) [] 0 3), .one (.al (.s 0 0 0) [(0, 0)]), vi, vi, vi], obs := [], al := [12, 19, 26, 34, 38], tk := [10, 17, 24, 32, 39, 41], keep := [(0, [0, 1]), (1, [0, 1, 5]), (2, [0, 1, 5, 9]), (3, [0, 1, 5]), (4, [0, 1, 5]), (5, [0, 1, 5]), (6, [0, 1, 5]), (7, [0, 1, 5]), (8, [0, 1, 5]), (9, [0, 1, 5]), (10, [0, 1, 5]), (11, [0, 4])], io := some 0, ioa := [38] }
def F78 : FA := { n := 20, sh := [vi, vj, vs, vs, vi, vb, vi, vb, vi, vi, vi, vy, vl, vs, vs, vs, vi, vi, vs, vs], obs := [], tk := [14, 16, 18], dp := [12], keep := [(0, [0]), (1, [0, 5]), (2, [2]), (3, [0, 3]), (4, [0, 3, 7]), (5, [0, 3]), (6, [0, 3]), (7, [2])] }
def F79 : FA := { n := 50, sh := [vl, vi, vj, vj, vi, vi, vi, vl, vi, vb, vi, vi, vl, vi, .one (.cp [.int .i64 0, .int .i64 0, .str [], .sl []]), .one (.cp [.int .i64 0, .int .i64 0, .str [], .sl []]), vi, vi, vb, vi, vi, vl, vi, .one (.cp [.int .i64 0, .int .i64 0, .str [], .sl []]), .one (.cp [.int .i64 0, .str [], .sl []]), vi, vi, vb, vi, vi, vl, vi, .one (.cp [.int .i64 0, .int .i64 0, .str [], .sl []]), .one (.cp [.str [], .sl []]), vs, vi, vs, vb, vi, vi, vl, vi, .one (.cp [.int .i64 0, .int .i64 0, .str [], .sl []]), .one (.cp [.sl []]), vl, vi, vi, vi, vb, vi], obs := [], tk := [10, 19, 28, 38, 45, 49], keep := [(0, [0, 1]), (1, [0, 1, 5]), (2, [0, 1, 5, 9]), (3, [0, 1, 5]), (4, [0, 1, 5, 18]), (5, [4]), (6, [0, 1, 5]), (7, [0, 1, 5, 27]), (8, [4]), (9, [0, 1, 5]), (10, [0, 1, 5, 37]), (11, [4]), (12, [0, 1, 5]), (13, [0, 1, 5]), (14, [0, 1, 5, 48]), (15, [4]), (16, [4])] }
def F106 : FA := { n := 19, sh := [vl, vj, vl, vl, vj, .one (.ptr 5 0), vl, vi, vi, vb, .one (.cp [.int .i64 0, .int .i64 0, .str [], .sl []]), .one (.ag [.int .i64 0, .int .i64 0, .str [], .sl []]), vl, .one (.ag [.int .i64 0, .int .i64 0, .str [], .sl []]), .one (.ag [.int .i64 0, .int .i64 0, .str [], .sl []]), vl, vl, vi, vl], obs := [(5, [.int .i64 0, .int .i64 0, .str [], .sl []])], tk := [6, 8, 12, 13, 18], dp := [15, 16], keep := [(0, [0]), (1, [0, 3]), (2, [3, 6, 7, 8]), (3, [3, 6, 7, 8, 9]), (4, [3, 5, 6, 7, 8]), (5, [3, 6, 7, 8]), (6, [3, 6, 7, 8]), (7, [2])] }
def An : FuncId → FA
  | 7 => F7
  | 21 => F21
  | 22 => F22
  | 29 => F29
  | 30 => F30
  | 31 => F31
  | 32 => F32
  | 33 => F33
  | 34 => F34
  | 35 => F35
  | 64 => F64
  | 65 => F65
  | 66 => F66
  | 68 => F68
  | 71 => F71
  | 75 => F75
  | 76 => F76
  | 77 => F77
  | 78 => F78
  | 79 => F79
  | 106 => F106
  | _ => { n := 0, sh := [], obs := [] }
def Sgs : FuncId → List Sg
  | 7 => [{ bi := ⟨[(0, [[.S, .S, .S, .F]])], []⟩, bo := ⟨[(0, [[.S]])], []⟩, np := 1, ext := false }]
  | 21 => [{ bi := ⟨[(0, [[.S, .S, .S, .F]])], []⟩, bo := ⟨[(0, [[.U 8], [.S]])], []⟩, np := 1, ext := false }]
  | 22 => [{ bi := ⟨[(0, [[.S, .S, .S, .F]])], []⟩, bo := ⟨[(0, [[.U 8], [.S]])], []⟩, np := 1, ext := false }]
  | 29 => [{ bi := ⟨[(0, [[.S, .S, .S, .F]]), (1, [[.S]])], []⟩, bo := ⟨[(0, [[.S]])], []⟩, np := 2, ext := false }]
  | 30 => [{ bi := ⟨[(0, [[.S, .S, .S, .F]])], []⟩, bo := ⟨[(0, [[.S, .S, .S, .U 4]])], []⟩, np := 1, ext := false }]
  | 31 => [{ bi := ⟨[(0, [[.F]]), (1, [[.F]])], []⟩, bo := ⟨[(0, [[.S]])], []⟩, np := 2, ext := false }]
  | 32 => [{ bi := ⟨[(0, [[.S, .S, .S, .F]]), (1, [[.S, .S, .S, .F]])], []⟩, bo := ⟨[(0, [[.S]])], []⟩, np := 2, ext := false }]
  | 33 => [{ bi := ⟨[(0, [[.S, .S, .S, .U 4]]), (1, [[.S]])], []⟩, bo := ⟨[(0, [[.S]])], []⟩, np := 2 }]
  | 34 => [{ bi := ⟨[(0, [[.U 0]]), (1, [[.S]])], []⟩, bo := ⟨[(0, [[.S]]), (1, [[.U 0]])], []⟩, np := 2, io := some 0 }]
  | 35 => [{ bi := ⟨[(0, [[.F]]), (1, [[.S]])], []⟩, bo := ⟨[(0, [[.S]])], []⟩, np := 2, ext := false }]
  | 64 => [{ bi := ⟨[(0, [[.S, .S, .S, .F]])], []⟩, bo := ⟨[(0, [[.S]])], []⟩, np := 1, ext := false }]
  | 65 => [{ bi := ⟨[(0, [[.S, .S, .S, .F]])], []⟩, bo := ⟨[(0, [[.S, .S, .S, .U 4]])], []⟩, np := 1, ext := false }]
  | 66 => [{ bi := ⟨[(0, [[.S, .S, .S, .F]])], []⟩, bo := ⟨[(0, [[.S, .S, .S, .U 4]])], []⟩, np := 1, ext := false }]
  | 68 => [{ bi := ⟨[(0, [[.F]]), (1, [[.S]])], []⟩, bo := ⟨[(0, [[.S]])], []⟩, np := 2, ext := false }]
  | 71 => [{ bi := ⟨[(0, [[.F]])], []⟩, bo := ⟨[(0, [[.U 4]])], []⟩, np := 1, ext := false }]
  | 75 => [{ bi := ⟨[(0, [[.F]]), (1, [[.F]])], []⟩, bo := ⟨[(0, [[.S]])], []⟩, np := 2, ext := false }]
  | 76 => [{ bi := ⟨[(0, [[.S, .S, .S, .F, .S, .S, .S, .F]]), (1, [[.S, .S, .S, .F, .S, .S, .S, .F]])], []⟩, bo := ⟨[(0, [[.S]])], []⟩, np := 2, ext := false }]
  | 77 => [{ bi := ⟨[(0, [[.U 0]]), (1, [[.S]])], []⟩, bo := ⟨[(0, [[.S]]), (1, [[.U 0]])], []⟩, np := 2, io := some 0 }]
  | 78 => [{ bi := ⟨[(0, [[.S]])], []⟩, bo := ⟨[(0, [[.S]])], []⟩, np := 1, ext := false }]
  | 79 => [{ bi := ⟨[(0, [[.F]]), (1, [[.S]])], []⟩, bo := ⟨[(0, [[.S]])], []⟩, np := 2, ext := false }]
  | 106 => [{ bi := ⟨[(0, [[.F]])], []⟩, bo := ⟨[(0, [[.U 4]])], []⟩, np := 1, ext := false }]
  | _ => []
end Go.Own
