/- What is told of the functions: shapes and kinds. No conditions. -/
import Derived.Test.YtgeomhdbckjkcaaProg
import Derived.KernelRfl
import Derived.Test.YtgeomhdbckjkcaaOwn3
set_option linter.unusedVariables false
set_option linter.unusedSimpArgs false
set_option linter.unnecessarySimpa false
namespace Go.Own
open Go Go.Proofs
def τ : TypeId → Option TI
  | 3 => some { size := 1, bytes := 8, zero := [.int .i64 0], agg := false, kind := .int .i64 }
  | 4 => some { size := 1, bytes := 1, zero := [.bool false], agg := false, kind := .bool }
  | 5 => some { size := 1, bytes := 1, zero := [.int .u8 0], agg := false, kind := .int .u8 }
  | 9 => some { size := 1, bytes := 16, zero := [.str []], agg := false, kind := .str }
  | 55 => some { size := 1, bytes := 24, zero := [.sl []], agg := false, kind := .sl 58 }
  | 56 => some { size := 1, bytes := 24, zero := [.sl []], agg := false, kind := .sl 231 }
  | 58 => some { size := 5, bytes := 80, zero := [.int .i64 0, .int .i64 0, .str [], .sl [], .sl []], agg := true, kind := .struct [(0, 1, false), (1, 1, false), (2, 1, false), (3, 1, false), (4, 1, false)] }
  | 59 => some { size := 1, bytes := 24, zero := [.sl []], agg := false, kind := .sl 88 }
  | 62 => some { size := 1, bytes := 24, zero := [.sl []], agg := false, kind := .sl 64 }
  | 64 => some { size := 4, bytes := 56, zero := [.int .i64 0, .int .i64 0, .str [], .sl []], agg := true, kind := .struct [(0, 1, false), (1, 1, false), (2, 1, false), (3, 1, false)] }
  | 67 => some { size := 1, bytes := 24, zero := [.sl []], agg := false, kind := .sl 70 }
  | 68 => some { size := 1, bytes := 24, zero := [.sl []], agg := false, kind := .sl 223 }
  | 70 => some { size := 5, bytes := 80, zero := [.int .i64 0, .int .i64 0, .str [], .sl [], .sl []], agg := true, kind := .struct [(0, 1, false), (1, 1, false), (2, 1, false), (3, 1, false), (4, 1, false)] }
  | 80 => some { size := 1, bytes := 24, zero := [.sl []], agg := false, kind := .sl 5 }
  | 84 => some { size := 1, bytes := 24, zero := [.sl []], agg := false, kind := .sl 103 }
  | 88 => some { size := 4, bytes := 56, zero := [.int .i64 0, .int .i64 0, .str [], .sl []], agg := true, kind := .struct [(0, 1, false), (1, 1, false), (2, 1, false), (3, 1, false)] }
  | 98 => some { size := 1, bytes := 24, zero := [.sl []], agg := false, kind := .sl 9 }
  | 103 => some { size := 5, bytes := 72, zero := [.str [], .int .i64 0, .int .i64 0, .str [], .sl []], agg := true, kind := .struct [(0, 1, false), (1, 4, true)] }
  | 223 => some { size := 10, bytes := 160, zero := [.int .i64 0, .int .i64 0, .str [], .sl [], .sl [], .int .i64 0, .int .i64 0, .str [], .sl [], .sl []], agg := true, kind := .struct [(0, 5, true), (5, 5, true)] }
  | 231 => some { size := 10, bytes := 160, zero := [.int .i64 0, .int .i64 0, .str [], .sl [], .sl [], .int .i64 0, .int .i64 0, .str [], .sl [], .sl []], agg := true, kind := .struct [(0, 5, true), (5, 5, true)] }
  | 243 => some { size := 2, bytes := 32, zero := [.int .i64 0, .sl []], agg := true, kind := .struct [(0, 1, false), (1, 1, false)] }
  | _ => none
set_option maxRecDepth 100000 in
theorem tables : Tables Try.prog τ := by
  intro t i h
  unfold τ at h
  split at h <;> (try cases h)
  · exact ⟨_, _, _, rfl, rfl, rfl, rfl, rfl, rfl, rfl, by decide, rfl, rfl⟩
  · exact ⟨_, _, _, rfl, rfl, rfl, rfl, rfl, rfl, rfl, by decide, rfl, rfl⟩
  · exact ⟨_, _, _, rfl, rfl, rfl, rfl, rfl, rfl, rfl, by decide, rfl, rfl⟩
  · exact ⟨_, _, _, rfl, rfl, rfl, rfl, rfl, rfl, rfl, by decide, rfl, rfl⟩
  · exact ⟨_, _, _, rfl, rfl, rfl, rfl, rfl, rfl, rfl, by decide, rfl, rfl⟩
  · exact ⟨_, _, _, rfl, rfl, rfl, rfl, rfl, rfl, rfl, by decide, rfl, rfl⟩
  · refine ⟨_, _, _, rfl, rfl, rfl, rfl, rfl, rfl, rfl, by decide, rfl, _, rfl, rfl, fun j f hf => ?_⟩
    match j with
    | 0 => simp at hf; subst hf; exact ⟨_, _, rfl, rfl, rfl, rfl, by decide, rfl, rfl⟩
    | 1 => simp at hf; subst hf; exact ⟨_, _, rfl, rfl, rfl, rfl, by decide, rfl, rfl⟩
    | 2 => simp at hf; subst hf; exact ⟨_, _, rfl, rfl, rfl, rfl, by decide, rfl, rfl⟩
    | 3 => simp at hf; subst hf; exact ⟨_, _, rfl, rfl, rfl, rfl, by decide, rfl, rfl⟩
    | 4 => simp at hf; subst hf; exact ⟨_, _, rfl, rfl, rfl, rfl, by decide, rfl, rfl⟩
    | j + 5 => simp at hf
  · exact ⟨_, _, _, rfl, rfl, rfl, rfl, rfl, rfl, rfl, by decide, rfl, rfl⟩
  · exact ⟨_, _, _, rfl, rfl, rfl, rfl, rfl, rfl, rfl, by decide, rfl, rfl⟩
  · refine ⟨_, _, _, rfl, rfl, rfl, rfl, rfl, rfl, rfl, by decide, rfl, _, rfl, rfl, fun j f hf => ?_⟩
    match j with
    | 0 => simp at hf; subst hf; exact ⟨_, _, rfl, rfl, rfl, rfl, by decide, rfl, rfl⟩
    | 1 => simp at hf; subst hf; exact ⟨_, _, rfl, rfl, rfl, rfl, by decide, rfl, rfl⟩
    | 2 => simp at hf; subst hf; exact ⟨_, _, rfl, rfl, rfl, rfl, by decide, rfl, rfl⟩
    | 3 => simp at hf; subst hf; exact ⟨_, _, rfl, rfl, rfl, rfl, by decide, rfl, rfl⟩
    | j + 4 => simp at hf
  · exact ⟨_, _, _, rfl, rfl, rfl, rfl, rfl, rfl, rfl, by decide, rfl, rfl⟩
  · exact ⟨_, _, _, rfl, rfl, rfl, rfl, rfl, rfl, rfl, by decide, rfl, rfl⟩
  · refine ⟨_, _, _, rfl, rfl, rfl, rfl, rfl, rfl, rfl, by decide, rfl, _, rfl, rfl, fun j f hf => ?_⟩
    match j with
    | 0 => simp at hf; subst hf; exact ⟨_, _, rfl, rfl, rfl, rfl, by decide, rfl, rfl⟩
    | 1 => simp at hf; subst hf; exact ⟨_, _, rfl, rfl, rfl, rfl, by decide, rfl, rfl⟩
    | 2 => simp at hf; subst hf; exact ⟨_, _, rfl, rfl, rfl, rfl, by decide, rfl, rfl⟩
    | 3 => simp at hf; subst hf; exact ⟨_, _, rfl, rfl, rfl, rfl, by decide, rfl, rfl⟩
    | 4 => simp at hf; subst hf; exact ⟨_, _, rfl, rfl, rfl, rfl, by decide, rfl, rfl⟩
    | j + 5 => simp at hf
  · exact ⟨_, _, _, rfl, rfl, rfl, rfl, rfl, rfl, rfl, by decide, rfl, rfl⟩
  · exact ⟨_, _, _, rfl, rfl, rfl, rfl, rfl, rfl, rfl, by decide, rfl, rfl⟩
  · refine ⟨_, _, _, rfl, rfl, rfl, rfl, rfl, rfl, rfl, by decide, rfl, _, rfl, rfl, fun j f hf => ?_⟩
    match j with
    | 0 => simp at hf; subst hf; exact ⟨_, _, rfl, rfl, rfl, rfl, by decide, rfl, rfl⟩
    | 1 => simp at hf; subst hf; exact ⟨_, _, rfl, rfl, rfl, rfl, by decide, rfl, rfl⟩
    | 2 => simp at hf; subst hf; exact ⟨_, _, rfl, rfl, rfl, rfl, by decide, rfl, rfl⟩
    | 3 => simp at hf; subst hf; exact ⟨_, _, rfl, rfl, rfl, rfl, by decide, rfl, rfl⟩
    | j + 4 => simp at hf
  · exact ⟨_, _, _, rfl, rfl, rfl, rfl, rfl, rfl, rfl, by decide, rfl, rfl⟩
  · refine ⟨_, _, _, rfl, rfl, rfl, rfl, rfl, rfl, rfl, by decide, rfl, _, rfl, rfl, fun j f hf => ?_⟩
    match j with
    | 0 => simp at hf; subst hf; exact ⟨_, _, rfl, rfl, rfl, rfl, by decide, rfl, rfl⟩
    | 1 => simp at hf; subst hf; exact ⟨_, _, rfl, rfl, rfl, rfl, by decide, rfl, rfl⟩
    | j + 2 => simp at hf
  · refine ⟨_, _, _, rfl, rfl, rfl, rfl, rfl, rfl, rfl, by decide, rfl, _, rfl, rfl, fun j f hf => ?_⟩
    match j with
    | 0 => simp at hf; subst hf; exact ⟨_, _, rfl, rfl, rfl, rfl, by decide, rfl, rfl⟩
    | 1 => simp at hf; subst hf; exact ⟨_, _, rfl, rfl, rfl, rfl, by decide, rfl, rfl⟩
    | j + 2 => simp at hf
  · refine ⟨_, _, _, rfl, rfl, rfl, rfl, rfl, rfl, rfl, by decide, rfl, _, rfl, rfl, fun j f hf => ?_⟩
    match j with
    | 0 => simp at hf; subst hf; exact ⟨_, _, rfl, rfl, rfl, rfl, by decide, rfl, rfl⟩
    | 1 => simp at hf; subst hf; exact ⟨_, _, rfl, rfl, rfl, rfl, by decide, rfl, rfl⟩
    | j + 2 => simp at hf
  · refine ⟨_, _, _, rfl, rfl, rfl, rfl, rfl, rfl, rfl, by decide, rfl, _, rfl, rfl, fun j f hf => ?_⟩
    match j with
    | 0 => simp at hf; subst hf; exact ⟨_, _, rfl, rfl, rfl, rfl, by decide, rfl, rfl⟩
    | 1 => simp at hf; subst hf; exact ⟨_, _, rfl, rfl, rfl, rfl, by decide, rfl, rfl⟩
    | j + 2 => simp at hf
abbrev vi : V := .one (.c (.int .i64 0))
abbrev vy : V := .one (.c (.int .u8 0))
abbrev vb : V := .one (.c (.bool false))
abbrev vl : V := .one (.c (.sl []))
abbrev vs : V := .one (.c (.str []))
abbrev vj : V := .one .junk
abbrev tl0 : List T := [.int .i64 0, .int .i64 0, .str [], .sl [], .sl []]
abbrev tl1 : List T := [.int .i64 0, .int .i64 0, .str [], .sl []]
abbrev tl2 : List T := [.int .i64 0, .int .i64 0, .str [], .sl [], .sl [], .int .i64 0, .int .i64 0, .str [], .sl [], .sl []]
abbrev tl3 : List T := [.str [], .int .i64 0, .int .i64 0, .str [], .sl []]
def F8 : FA := { n := 119, sh := [.one (.ag tl0), .one (.ag tl1), .one (.ptr 2 0), .one (.ptr 3 0), vb, vi, vl, vb, .one (.ptr 8 0), .one (.ptr 9 0), vl, vb, vi, vi, vi, vl, vb, .one (.ag tl0), vi, vi, vi, vb, .one (.ag tl1), vi, vi, vi, vb, .tup [.c (.sl []), .c (.bool false)], .one (.ag tl0), .one (.ag tl0), .one (.ag tl1), .one (.ag tl1), .tup [.c (.sl []), .c (.bool false)], vl, vb, .one (.ag tl0), .one (.ag tl0), .one (.ag tl1), .one (.ag tl1), .tup [.c (.sl []), .c (.bool false)], .one (.ag tl0), .one (.ag tl1), .tup [.c (.sl []), .c (.bool false)], vl, vb, vl, vl, vb, vb, vb, vb, vb, vb, vb, .one (.ag tl0), .one (.ag tl0), .one (.ag tl0), vb, vb, .one (.ag tl1), .one (.ag tl1), .one (.ag tl1), vb, vb, .one (.ag tl0), vi, vi, .one (.ag tl1), vi, vi, vi, vb, vb, vl, vl, vb, vb, vb, vb, vb, vb, vb, vb, .one (.al (.s 10 0 0) []), vi, vi, vl, vi, vi, vi, vb, vi, vi, vb, .tup [.c (.sl []), .c (.bool false)], .one (.ag tl0), .one (.ag tl0), .one (.ag tl1), .one (.ag tl1), .tup [.c (.sl []), .c (.bool false)], vl, vb, vl, vl, vb, vb, vb, vb, vb, vb, vb, vl, vi, vi, vi, vb, vi, vi, vb], obs := [(2, tl0), (3, tl1), (8, tl0), (9, tl1)], al := [83], tk := [18, 23, 25, 27, 39, 49, 64, 65, 67, 68, 70, 72, 78, 79, 84, 87, 91, 94, 95, 97, 102, 103, 106, 107, 108, 111, 112, 116, 117], fz := [29, 31], keep := [(0, [2, 3]), (1, [2, 3, 5]), (2, [2, 3, 5]), (3, [2, 3, 5, 21]), (4, [4]), (5, [2, 3, 5]), (6, [2, 3, 26]), (7, [4]), (8, [2, 3, 6, 7]), (9, [2, 3, 6, 7, 8]), (10, [2, 3, 6, 7, 8, 9]), (11, [2, 3, 6, 7, 8, 9, 10, 11]), (12, [2, 3, 6, 7, 8, 9, 10, 11, 53]), (13, [4]), (14, [2, 3, 6, 7, 8, 9, 10, 11, 58]), (15, [4]), (16, [2, 3, 6, 7, 8, 9, 10, 11, 63]), (17, [4]), (18, [2, 3, 6, 7, 8, 9, 10, 11, 12]), (19, [2, 3, 6, 7, 9, 10, 11, 12]), (20, [2, 3, 6, 7, 10, 11, 12]), (21, [2, 3, 6, 7, 10, 82]), (22, [4]), (23, [2, 3, 6, 7, 10, 13]), (24, [2, 3, 6, 7, 10, 13]), (25, [2, 3, 6, 7, 10, 13, 14]), (26, [2, 3, 6, 7, 10, 13, 14]), (27, [2, 3, 6, 7, 10, 13, 14, 90]), (28, [4]), (29, [2, 3, 6, 7, 10, 13, 93]), (30, [4]), (31, [6, 7, 10, 13, 15, 16]), (32, [10, 13, 110]), (33, [4]), (34, [10, 13, 14]), (35, [13, 14]), (36, [13, 14, 115]), (37, [4]), (38, [118]), (39, [4]), (40, [4])], ioa := [83], mks := [(19, [(3, 116), (4, 117)]), (20, [(3, 41)])] }
def F31 : FA := { n := 25, sh := [.one (.ag tl0), vi, .one (.ptr 2 0), vj, vi, vi, .one (.ptr 2 2), vs, vi, vi, vi, vb, .one (.ptr 2 3), vl, vi, vi, vi, vb, .one (.ptr 2 4), vl, vi, vi, vi, vb, vi], obs := [(2, tl0)], tk := [5, 7, 13, 14, 19, 20, 24], keep := [(0, [1, 2]), (1, [1, 2]), (2, [1, 2, 11]), (3, [4]), (4, [1, 2]), (5, [1, 2, 17]), (6, [4]), (7, [1]), (8, [1, 23]), (9, [4]), (10, [4])] }
def F32 : FA := { n := 27, sh := [vl, vi, vj, vj, vi, vi, vi, vl, vi, vi, vi, vb, vi, vl, vi, vb, vi, vi, vl, vi, .one (.cp tl1), .one (.ag tl1), vi, vi, vi, vb, vi], obs := [], tk := [6, 16, 22, 26], keep := [(0, [0, 1]), (1, [0, 1]), (2, [0, 1, 11]), (3, [4]), (4, [0, 1, 5]), (5, [0, 1, 5, 15]), (6, [0, 1, 5]), (7, [0, 1, 5]), (8, [0, 1, 5, 25]), (9, [4]), (10, [4])] }
def F34 : FA := { n := 22, sh := [.one (.ag tl0), .one (.ptr 1 0), .one (.ptr 2 0), .one (.ptr 3 0), .one (.ptr 1 0), vi, .one (.ptr 3 0), .one (.ptr 1 1), vi, .one (.ptr 3 1), .one (.ptr 1 2), vs, .one (.ptr 3 2), .one (.ptr 1 3), vl, vl, .one (.ptr 3 3), .one (.ptr 1 4), vl, vl, .one (.ptr 3 4), .one (.ag tl0)], obs := [(1, tl0), (2, tl0), (3, tl0)], tk := [5, 8, 11, 14, 18, 21], keep := [(0, [1, 2]), (1, [1, 2, 3]), (2, [1, 2, 3]), (3, [1, 2, 3]), (4, [1, 2, 3]), (5, [1, 2, 3]), (6, [2, 3]), (7, [2])] }
def F35 : FA := { n := 23, sh := [vl, vj, vl, vl, vi, vl, vi, vl, vi, vl, vi, vb, vi, vi, .one (.al (.s 3 0 0) []), vi, vl, vi, .one (.cp tl1), .one (.ag tl1), .one (.ag tl1), .one (.pp (.s 3 0 0) [] 0 0), vl], obs := [], al := [14], tk := [12, 22], keep := [(0, [0]), (1, [0, 3]), (2, [0, 3, 4]), (3, [0, 3, 4, 11]), (4, [0, 3, 4]), (5, [0, 3, 4]), (6, [2])] }
def F37 : FA := { n := 26, sh := [.one (.ag tl1), .one (.ag tl1), .one (.ptr 2 0), .one (.ptr 3 0), vb, .one (.ptr 2 0), vi, .one (.ptr 3 0), vi, vb, .one (.ptr 2 1), vi, .one (.ptr 3 1), vi, vb, .one (.ptr 2 2), vs, .one (.ptr 3 2), vs, vb, .one (.ptr 2 3), vl, .one (.ptr 3 3), vl, vb, vb], obs := [(2, tl1), (3, tl1)], tk := [6, 8, 11, 13, 16, 18, 21, 23], keep := [(0, [2, 3]), (1, [2, 3, 9]), (2, [4]), (3, [2, 3, 14]), (4, [4]), (5, [2, 3, 19]), (6, [4]), (7, [25]), (8, [4]), (9, [4])] }
def F38 : FA := { n := 27, sh := [vl, vl, vj, vj, vb, vi, vl, vi, vl, vi, vb, vi, vl, vi, vb, vi, vi, vl, vi, .one (.cp tl1), .one (.ag tl1), vl, vi, .one (.cp tl1), .one (.ag tl1), vb, vb], obs := [], tk := [15], keep := [(0, [0, 1]), (1, [0, 1, 10]), (2, [4]), (3, [0, 1, 5]), (4, [0, 1, 5, 14]), (5, [0, 1, 5]), (6, [0, 1, 5, 26]), (7, [4]), (8, [4])] }
def F39 : FA := { n := 32, sh := [.one (.ag tl0), .one (.ag tl0), .one (.ptr 2 0), .one (.ptr 3 0), vb, .one (.ptr 2 0), vi, .one (.ptr 3 0), vi, vb, .one (.ptr 2 1), vi, .one (.ptr 3 1), vi, vb, .one (.ptr 2 2), vs, .one (.ptr 3 2), vs, vb, .one (.ptr 2 3), vl, .one (.ptr 3 3), vl, vb, vb, .one (.ptr 2 4), vl, .one (.ptr 3 4), vl, vb, vb], obs := [(2, tl0), (3, tl0)], tk := [6, 8, 11, 13, 16, 18, 21, 23, 27, 29], keep := [(0, [2, 3]), (1, [2, 3, 9]), (2, [4]), (3, [2, 3, 14]), (4, [4]), (5, [2, 3, 19]), (6, [4]), (7, [2, 3, 25]), (8, [4]), (9, [31]), (10, [4]), (11, [4])] }
def F41 : FA := { n := 42, sh := [vl, vi, vj, vj, vi, vi, vi, vl, vi, vb, vi, vi, .one (.al (.s 0 0 0) []), vi, vi, .one (.pp (.s 0 0 0) [] 0 0), .one (.pp (.s 0 0 0) [] 0 0), vi, vi, .one (.al (.s 0 0 0) []), vi, vi, .one (.pp (.s 0 0 0) [] 0 0), .one (.pp (.s 0 0 0) [] 0 1), vi, vi, .one (.al (.s 0 0 0) []), vi, vi, vs, .one (.pp (.s 0 0 0) [] 0 0), .one (.pp (.s 0 0 0) [] 0 2), vi, vi, .one (.al (.s 0 0 0) []), vi, .one (.pp (.s 0 0 0) [] 0 0), .one (.pp (.s 0 0 0) [] 0 3), .one (.al (.s 0 0 0) [(0, 0)]), vi, vi, vi], obs := [], al := [12, 19, 26, 34, 38], tk := [10, 17, 24, 32, 39, 41], keep := [(0, [0, 1]), (1, [0, 1, 5]), (2, [0, 1, 5, 9]), (3, [0, 1, 5]), (4, [0, 1, 5]), (5, [0, 1, 5]), (6, [0, 1, 5]), (7, [0, 1, 5]), (8, [0, 1, 5]), (9, [0, 1, 5]), (10, [0, 1, 5]), (11, [0, 4])], io := some 0, ioa := [38] }
def F44 : FA := { n := 50, sh := [vl, vi, vj, vj, vi, vi, vi, vl, vi, vb, vi, vi, vl, vi, .one (.cp tl1), .one (.cp tl1), vi, vi, vb, vi, vi, vl, vi, .one (.cp tl1), .one (.cp [.int .i64 0, .str [], .sl []]), vi, vi, vb, vi, vi, vl, vi, .one (.cp tl1), .one (.cp [.str [], .sl []]), vs, vi, vs, vb, vi, vi, vl, vi, .one (.cp tl1), .one (.cp [.sl []]), vl, vi, vi, vi, vb, vi], obs := [], tk := [10, 19, 28, 38, 45, 49], keep := [(0, [0, 1]), (1, [0, 1, 5]), (2, [0, 1, 5, 9]), (3, [0, 1, 5]), (4, [0, 1, 5, 18]), (5, [4]), (6, [0, 1, 5]), (7, [0, 1, 5, 27]), (8, [4]), (9, [0, 1, 5]), (10, [0, 1, 5, 37]), (11, [4]), (12, [0, 1, 5]), (13, [0, 1, 5]), (14, [0, 1, 5, 48]), (15, [4]), (16, [4])] }
def F49 : FA := { n := 25, sh := [.one (.ag tl0), .one (.ag tl1), .one (.ptr 2 0), .one (.ptr 3 0), vl, vb, vl, vb, .one (.ag tl0), vb, vb, vb, .one (.ag tl1), vb, vb, vb, .tup [.c (.sl []), .c (.bool false)], .one (.ag tl0), .one (.ag tl1), .tup [.c (.sl []), .c (.bool false)], vl, vb, vb, vb, vl], obs := [(2, tl0), (3, tl1)], tk := [11, 16, 17, 18, 22, 24], keep := [(0, [2, 3]), (1, [2, 3, 15]), (2, [4, 5]), (3, [6, 7]), (4, [6, 23]), (5, [4, 5]), (6, [4, 5])] }
def F50 : FA := { n := 19, sh := [.one (.ag tl1), vi, .one (.ptr 2 0), vj, vi, vi, .one (.ptr 2 2), vs, vi, vi, vi, vb, .one (.ptr 2 3), vl, vi, vi, vi, vb, vi], obs := [(2, tl1)], tk := [5, 7, 13, 14, 18], keep := [(0, [1, 2]), (1, [1, 2]), (2, [1, 2, 11]), (3, [4]), (4, [1]), (5, [1, 17]), (6, [4]), (7, [4])] }
def F51 : FA := { n := 24, sh := [.one (.ag tl0), .one (.ag tl1), .one (.ptr 2 0), .one (.ptr 3 0), vl, vb, .one (.ptr 6 0), vl, .one (.ag tl0), vb, vb, vb, .one (.ag tl1), vb, vb, vb, vb, .one (.ag tl0), .one (.ag tl1), vb, vb, vb, vl, vl], obs := [(2, tl0), (3, tl1), (6, [.sl []])], tk := [11, 16, 17, 18, 23], dp := [7, 22], keep := [(0, [2, 3]), (1, [2, 3, 6]), (2, [6, 21]), (3, [4, 5]), (4, [4, 5])] }
def F52 : FA := { n := 18, sh := [.one (.ag tl1), .one (.ptr 1 0), .one (.ptr 2 0), .one (.ptr 3 0), .one (.ptr 1 0), vi, .one (.ptr 3 0), .one (.ptr 1 1), vi, .one (.ptr 3 1), .one (.ptr 1 2), vs, .one (.ptr 3 2), .one (.ptr 1 3), vl, vl, .one (.ptr 3 3), .one (.ag tl1)], obs := [(1, tl1), (2, tl1), (3, tl1)], tk := [5, 8, 11, 14, 17], keep := [(0, [1, 2]), (1, [1, 2, 3]), (2, [1, 2, 3]), (3, [1, 2, 3]), (4, [1, 2, 3]), (5, [2, 3]), (6, [2])] }
def F53 : FA := { n := 27, sh := [vl, vl, vj, vj, vb, vi, vl, vi, vl, vi, vb, vi, vl, vi, vb, vi, vi, vl, vi, .one (.cp tl3), .one (.ag tl3), vl, vi, .one (.cp tl3), .one (.ag tl3), vb, vb], obs := [], tk := [15], keep := [(0, [0, 1]), (1, [0, 1, 10]), (2, [4]), (3, [0, 1, 5]), (4, [0, 1, 5, 14]), (5, [0, 1, 5]), (6, [0, 1, 5, 26]), (7, [4]), (8, [4])] }
def F54 : FA := { n := 54, sh := [vl, vi, vj, vj, vi, vi, vi, vl, vi, vb, vi, vi, .one (.al (.s 0 0 0) []), vi, vi, vs, .one (.pp (.s 0 0 0) [] 0 0), .one (.pp (.s 0 0 0) [] 0 0), vi, vi, .one (.al (.s 0 0 0) []), vi, vi, .one (.pp (.s 0 0 0) [] 0 0), .one (.pp (.s 0 0 0) [] 0 1), .one (.pp (.s 0 0 0) [] 0 1), vi, vi, .one (.al (.s 0 0 0) []), vi, vi, .one (.pp (.s 0 0 0) [] 0 0), .one (.pp (.s 0 0 0) [] 0 1), .one (.pp (.s 0 0 0) [] 0 2), vi, vi, .one (.al (.s 0 0 0) []), vi, vi, vs, .one (.pp (.s 0 0 0) [] 0 0), .one (.pp (.s 0 0 0) [] 0 1), .one (.pp (.s 0 0 0) [] 0 3), vi, vi, .one (.al (.s 0 0 0) []), vi, .one (.pp (.s 0 0 0) [] 0 0), .one (.pp (.s 0 0 0) [] 0 1), .one (.pp (.s 0 0 0) [] 0 4), .one (.al (.s 0 0 0) [(0, 0)]), vi, vi, vi], obs := [], al := [12, 20, 28, 36, 45, 50], tk := [10, 18, 26, 34, 43, 51, 53], keep := [(0, [0, 1]), (1, [0, 1, 5]), (2, [0, 1, 5, 9]), (3, [0, 1, 5]), (4, [0, 1, 5]), (5, [0, 1, 5]), (6, [0, 1, 5]), (7, [0, 1, 5]), (8, [0, 1, 5]), (9, [0, 1, 5]), (10, [0, 1, 5]), (11, [0, 1, 5]), (12, [0, 1, 5]), (13, [0, 4])], io := some 0, ioa := [50] }
def F55 : FA := { n := 64, sh := [vl, vi, vj, vj, vi, vi, vi, vl, vi, vb, vi, vi, vl, vi, .one (.cp tl3), .one (.cp tl3), vs, vi, vs, vb, vi, vi, vl, vi, .one (.cp tl3), .one (.cp tl1), .one (.cp tl1), vi, vi, vb, vi, vi, vl, vi, .one (.cp tl3), .one (.cp tl1), .one (.cp [.int .i64 0, .str [], .sl []]), vi, vi, vb, vi, vi, vl, vi, .one (.cp tl3), .one (.cp tl1), .one (.cp [.str [], .sl []]), vs, vi, vs, vb, vi, vi, vl, vi, .one (.cp tl3), .one (.cp tl1), .one (.cp [.sl []]), vl, vi, vi, vi, vb, vi], obs := [], tk := [10, 20, 30, 40, 51, 59, 63], keep := [(0, [0, 1]), (1, [0, 1, 5]), (2, [0, 1, 5, 9]), (3, [0, 1, 5]), (4, [0, 1, 5, 19]), (5, [4]), (6, [0, 1, 5]), (7, [0, 1, 5, 29]), (8, [4]), (9, [0, 1, 5]), (10, [0, 1, 5, 39]), (11, [4]), (12, [0, 1, 5]), (13, [0, 1, 5, 50]), (14, [4]), (15, [0, 1, 5]), (16, [0, 1, 5]), (17, [0, 1, 5, 62]), (18, [4]), (19, [4])] }
def F61 : FA := { n := 6, sh := [.one (.ag tl1), .one (.ptr 1 0), vb, .one (.ag tl1), vi, vb], obs := [(1, tl1)], tk := [3], keep := [(0, [1]), (1, [2])] }
def F69 : FA := { n := 15, sh := [vi, vi, vi, vj, vj, vj, vb, vi, vi, vb, vb, vi, vi, vb, vb], obs := [], tk := [8, 10, 11, 12], keep := [(0, [0, 1, 2]), (1, [6])] }
def F72 : FA := { n := 18, sh := [vl, vj, vb, vi, vi, vl, vi, vb, vi, vi, vl, vi, vl, vl, vi, .one (.cp [.str []]), vs, vb], obs := [], tk := [8], keep := [(0, [0]), (1, [0, 3]), (2, [0, 3, 7]), (3, [0, 3]), (4, [0, 3, 17]), (5, [2]), (6, [2])] }
def F75 : FA := { n := 15, sh := [vi, vi, vi, vj, vj, vj, vb, vi, vi, vb, vb, vi, vi, vb, vb], obs := [], tk := [8, 10, 11, 12], keep := [(0, [0, 1, 2]), (1, [6])] }
def F77 : FA := { n := 9, sh := [vl, vs, vj, vj, vb, vl, vs, vi, vb], obs := [], tk := [5, 6], keep := [(0, [0, 1]), (1, [4])] }
def F88 : FA := { n := 20, sh := [vi, vj, vs, vs, vi, vb, vi, vb, vi, vi, vi, vy, vl, vs, vs, vs, vi, vi, vs, vs], obs := [], tk := [14, 16, 18], dp := [12], keep := [(0, [0]), (1, [0, 5]), (2, [2]), (3, [0, 3]), (4, [0, 3, 7]), (5, [0, 3]), (6, [0, 3]), (7, [2])] }
def F96 : FA := { n := 18, sh := [vl, vs, vj, vj, vb, vi, vi, vl, vi, vb, vi, vi, vl, vi, .one (.cp [.str []]), vs, vs, vb], obs := [], tk := [10], keep := [(0, [0, 1]), (1, [0, 1, 5]), (2, [0, 1, 5, 9]), (3, [0, 1, 5]), (4, [0, 1, 5, 17]), (5, [4]), (6, [4])] }
def F104 : FA := { n := 27, sh := [vl, vi, vj, vj, vi, vi, vi, vl, vi, vi, vi, vb, vi, vl, vi, vb, vi, vi, vl, vi, .one (.cp tl0), .one (.ag tl0), vi, vi, vi, vb, vi], obs := [], tk := [6, 16, 22, 26], keep := [(0, [0, 1]), (1, [0, 1]), (2, [0, 1, 11]), (3, [4]), (4, [0, 1, 5]), (5, [0, 1, 5, 15]), (6, [0, 1, 5]), (7, [0, 1, 5]), (8, [0, 1, 5, 25]), (9, [4]), (10, [4])] }
def F105 : FA := { n := 27, sh := [vl, vi, vj, vj, vi, vi, vi, vl, vi, vi, vi, vb, vi, vl, vi, vb, vi, vi, vl, vi, .one (.cp tl2), .one (.ag tl2), vi, vi, vi, vb, vi], obs := [], tk := [6, 16, 22, 26], keep := [(0, [0, 1]), (1, [0, 1]), (2, [0, 1, 11]), (3, [4]), (4, [0, 1, 5]), (5, [0, 1, 5, 15]), (6, [0, 1, 5]), (7, [0, 1, 5]), (8, [0, 1, 5, 25]), (9, [4]), (10, [4])] }
def F107 : FA := { n := 11, sh := [.one (.ag tl0), .one (.ptr 1 0), vb, .one (.ag tl0), vi, vb, vb, .one (.ag tl0), vl, vb, vb], obs := [(1, tl0)], tk := [6, 7], keep := [(0, [1]), (1, [2])] }
def F108 : FA := { n := 6, sh := [.one (.ag tl1), .one (.ptr 1 0), vb, .one (.ag tl1), vi, vb], obs := [(1, tl1)], tk := [3], keep := [(0, [1]), (1, [2])] }
def F109 : FA := { n := 132, sh := [.one (.ag tl0), .one (.ag tl1), .one (.ptr 1000000 0), .one (.ptr 3 0), .one (.ptr 4 0), vj, vb, vi, .one (.ptr 3 0), vi, vb, vb, .one (.ptr 4 0), vi, vb, vb, .one (.ptr 4 1), vi, .one (.ptr 3 1), vi, vb, vb, vb, vb, .one (.ptr 4 0), vi, vb, vb, .one (.ptr 4 2), vs, .one (.ptr 3 2), vs, vb, vb, vb, vb, .one (.ptr 3 2), vs, vb, .one (.ptr 1000000 0), .one (.ptr 1000000 0), .one (.ptr 1000000 0), vl, .one (.ptr 3 2), vs, .one (.ag tl1), .one (.ag tl1), .one (.ag tl3), vl, vl, .one (.ptr 1000000 0), vb, vb, .one (.ptr 4 0), vi, vb, vb, .one (.ptr 4 3), vl, vi, .one (.ptr 3 3), vl, vi, vb, vb, vb, .one (.ptr 3 3), vl, .one (.ptr 4 3), vl, .one (.ptr 1000000 0), vb, vb, vb, vb, .one (.ptr 4 0), vi, vb, vb, .one (.ptr 4 3), vl, vi, .one (.ptr 3 3), vl, vi, vb, vb, vb, .one (.ptr 3 3), vl, .one (.ptr 4 3), vl, .one (.ptr 1000000 0), vb, vb, .one (.ptr 3 3), vl, vi, vi, .one (.ptr 4 0), vi, vb, vb, .one (.ptr 4 3), vl, vi, vi, vb, vb, vb, .one (.ptr 3 3), vl, vi, vl, .one (.ptr 4 3), vl, .one (.ptr 1000000 0), vb, vb, vb, .one (.ptr 3 3), vl, vi, .one (.cp tl0), .one (.ag tl0), .one (.ptr 4 3), vl, vi, vl, .one (.ag tl1), .one (.ptr 1000000 0), vb], obs := [(3, tl0), (4, tl1), (1000000, [.sl []])], tk := [9, 13, 15, 17, 19, 25, 27, 29, 31, 40, 42, 44, 45, 54, 56, 65, 67, 69, 70, 76, 78, 87, 89, 91, 92, 100, 102, 109, 121, 126, 127, 130], dp := [48], keep := [(0, [2, 3, 4]), (1, [2, 3, 4, 9]), (2, [2, 3, 4, 9, 10]), (3, [6]), (4, [2, 3, 4, 9, 22]), (5, [6]), (6, [2, 3, 4, 9, 34]), (7, [2, 3, 4, 38]), (8, []), (9, [6]), (10, [2, 3, 4, 9, 51]), (11, [6]), (12, [2, 3, 4, 73]), (13, [6]), (14, [2, 3, 4, 7]), (15, [2, 3, 4, 7, 119]), (16, [6]), (17, [6])] }
def F110 : FA := { n := 23, sh := [vl, vj, vl, vl, vi, vl, vi, vl, vi, vl, vi, vb, vi, vi, .one (.al (.s 3 0 0) []), vi, vl, vi, .one (.cp tl0), .one (.ag tl0), .one (.ag tl0), .one (.pp (.s 3 0 0) [] 0 0), vl], obs := [], al := [14], tk := [12, 22], keep := [(0, [0]), (1, [0, 3]), (2, [0, 3, 4]), (3, [0, 3, 4, 11]), (4, [0, 3, 4]), (5, [0, 3, 4]), (6, [2])] }
def F111 : FA := { n := 23, sh := [vl, vj, vl, vl, vi, vl, vi, vl, vi, vl, vi, vb, vi, vi, .one (.al (.s 3 0 0) []), vi, vl, vi, .one (.cp tl2), .one (.ag tl2), .one (.ag tl2), .one (.pp (.s 3 0 0) [] 0 0), vl], obs := [], al := [14], tk := [12, 22], keep := [(0, [0]), (1, [0, 3]), (2, [0, 3, 4]), (3, [0, 3, 4, 11]), (4, [0, 3, 4]), (5, [0, 3, 4]), (6, [2])] }
def F112 : FA := { n := 19, sh := [vl, vj, vl, vl, vj, .one (.ptr 5 0), vl, vi, vi, vb, .one (.cp tl1), .one (.ag tl1), vl, .one (.ag tl1), .one (.ag tl1), vl, vl, vi, vl], obs := [(5, tl1)], tk := [6, 8, 12, 13, 18], dp := [15, 16], keep := [(0, [0]), (1, [0, 3]), (2, [3, 6, 7, 8]), (3, [3, 6, 7, 8, 9]), (4, [3, 5, 6, 7, 8]), (5, [3, 6, 7, 8]), (6, [3, 6, 7, 8]), (7, [2])] }
def F114 : FA := { n := 27, sh := [vl, vl, vj, vj, vb, vi, vl, vi, vl, vi, vb, vi, vl, vi, vb, vi, vi, vl, vi, .one (.cp tl0), .one (.ag tl0), vl, vi, .one (.cp tl0), .one (.ag tl0), vb, vb], obs := [], tk := [15], keep := [(0, [0, 1]), (1, [0, 1, 10]), (2, [4]), (3, [0, 1, 5]), (4, [0, 1, 5, 14]), (5, [0, 1, 5]), (6, [0, 1, 5, 26]), (7, [4]), (8, [4])] }
def F115 : FA := { n := 27, sh := [vl, vl, vj, vj, vb, vi, vl, vi, vl, vi, vb, vi, vl, vi, vb, vi, vi, vl, vi, .one (.cp tl2), .one (.ag tl2), vl, vi, .one (.cp tl2), .one (.ag tl2), vb, vb], obs := [], tk := [15], keep := [(0, [0, 1]), (1, [0, 1, 10]), (2, [4]), (3, [0, 1, 5]), (4, [0, 1, 5, 14]), (5, [0, 1, 5]), (6, [0, 1, 5, 26]), (7, [4]), (8, [4])] }
def F116 : FA := { n := 49, sh := [vl, vi, vj, vj, vi, vi, vi, vl, vi, vb, vi, vi, .one (.al (.s 0 0 0) []), vi, vi, .one (.pp (.s 0 0 0) [] 0 0), .one (.pp (.s 0 0 0) [] 0 0), vi, vi, .one (.al (.s 0 0 0) []), vi, vi, .one (.pp (.s 0 0 0) [] 0 0), .one (.pp (.s 0 0 0) [] 0 1), vi, vi, .one (.al (.s 0 0 0) []), vi, vi, vs, .one (.pp (.s 0 0 0) [] 0 0), .one (.pp (.s 0 0 0) [] 0 2), vi, vi, .one (.al (.s 0 0 0) []), vi, .one (.pp (.s 0 0 0) [] 0 0), .one (.pp (.s 0 0 0) [] 0 3), .one (.al (.s 0 0 0) [(0, 0)]), vi, vi, .one (.al (.s 0 0 0) []), vi, .one (.pp (.s 0 0 0) [] 0 0), .one (.pp (.s 0 0 0) [] 0 4), .one (.al (.s 0 0 0) [(0, 0)]), vi, vi, vi], obs := [], al := [12, 19, 26, 34, 38, 41, 45], tk := [10, 17, 24, 32, 39, 46, 48], keep := [(0, [0, 1]), (1, [0, 1, 5]), (2, [0, 1, 5, 9]), (3, [0, 1, 5]), (4, [0, 1, 5]), (5, [0, 1, 5]), (6, [0, 1, 5]), (7, [0, 1, 5]), (8, [0, 1, 5]), (9, [0, 1, 5]), (10, [0, 1, 5]), (11, [0, 1, 5]), (12, [0, 4])], io := some 0, ioa := [38, 45] }
def F117 : FA := { n := 95, sh := [vl, vi, vj, vj, vi, vi, vi, vl, vi, vb, vi, vi, .one (.al (.s 0 0 0) []), vi, vi, .one (.pp (.s 0 0 0) [] 0 0), .one (.pp (.s 0 0 0) [] 0 0), .one (.pp (.s 0 0 0) [] 0 0), vi, vi, .one (.al (.s 0 0 0) []), vi, vi, .one (.pp (.s 0 0 0) [] 0 0), .one (.pp (.s 0 0 0) [] 0 0), .one (.pp (.s 0 0 0) [] 0 1), vi, vi, .one (.al (.s 0 0 0) []), vi, vi, vs, .one (.pp (.s 0 0 0) [] 0 0), .one (.pp (.s 0 0 0) [] 0 0), .one (.pp (.s 0 0 0) [] 0 2), vi, vi, .one (.al (.s 0 0 0) []), vi, .one (.pp (.s 0 0 0) [] 0 0), .one (.pp (.s 0 0 0) [] 0 0), .one (.pp (.s 0 0 0) [] 0 3), .one (.al (.s 0 0 0) [(0, 0)]), vi, vi, .one (.al (.s 0 0 0) []), vi, .one (.pp (.s 0 0 0) [] 0 0), .one (.pp (.s 0 0 0) [] 0 0), .one (.pp (.s 0 0 0) [] 0 4), .one (.al (.s 0 0 0) [(0, 0)]), vi, vi, .one (.al (.s 0 0 0) []), vi, vi, .one (.pp (.s 0 0 0) [] 0 0), .one (.pp (.s 0 0 0) [] 0 5), .one (.pp (.s 0 0 0) [] 0 5), vi, vi, .one (.al (.s 0 0 0) []), vi, vi, .one (.pp (.s 0 0 0) [] 0 0), .one (.pp (.s 0 0 0) [] 0 5), .one (.pp (.s 0 0 0) [] 0 6), vi, vi, .one (.al (.s 0 0 0) []), vi, vi, vs, .one (.pp (.s 0 0 0) [] 0 0), .one (.pp (.s 0 0 0) [] 0 5), .one (.pp (.s 0 0 0) [] 0 7), vi, vi, .one (.al (.s 0 0 0) []), vi, .one (.pp (.s 0 0 0) [] 0 0), .one (.pp (.s 0 0 0) [] 0 5), .one (.pp (.s 0 0 0) [] 0 8), .one (.al (.s 0 0 0) [(0, 0)]), vi, vi, .one (.al (.s 0 0 0) []), vi, .one (.pp (.s 0 0 0) [] 0 0), .one (.pp (.s 0 0 0) [] 0 5), .one (.pp (.s 0 0 0) [] 0 9), .one (.al (.s 0 0 0) [(0, 0)]), vi, vi, vi], obs := [], al := [12, 20, 28, 37, 42, 45, 50, 53, 61, 69, 78, 83, 86, 91], tk := [10, 18, 26, 35, 43, 51, 59, 67, 76, 84, 92, 94], keep := [(0, [0, 1]), (1, [0, 1, 5]), (2, [0, 1, 5, 9]), (3, [0, 1, 5]), (4, [0, 1, 5]), (5, [0, 1, 5]), (6, [0, 1, 5]), (7, [0, 1, 5]), (8, [0, 1, 5]), (9, [0, 1, 5]), (10, [0, 1, 5]), (11, [0, 1, 5]), (12, [0, 1, 5]), (13, [0, 1, 5]), (14, [0, 1, 5]), (15, [0, 1, 5]), (16, [0, 1, 5]), (17, [0, 1, 5]), (18, [0, 1, 5]), (19, [0, 1, 5]), (20, [0, 4])], io := some 0, ioa := [42, 50, 83, 91] }
def F123 : FA := { n := 6, sh := [.one (.ag tl0), .one (.ptr 1 0), vb, .one (.ptr 3 0), .one (.ag tl0), vb], obs := [(1, tl0), (3, [.int .i64 0, .sl []])], tk := [4], keep := [(0, [1]), (1, [1, 3]), (2, [2])] }
def F124 : FA := { n := 143, sh := [.one (.ag tl0), .one (.ag tl1), vl, .one (.ptr 3 0), .one (.ptr 4 0), vj, vl, vb, vi, vb, .one (.ptr 3 0), vi, vb, vb, vl, .one (.ptr 4 0), vi, vb, vb, .one (.ptr 4 1), vi, .one (.ptr 3 1), vi, vb, vb, vb, vb, vl, .one (.ptr 4 0), vi, vb, vb, .one (.ptr 4 2), vs, .one (.ptr 3 2), vs, vb, vb, vb, vb, .one (.ptr 3 2), vs, vb, vl, .one (.ptr 3 2), vs, .one (.ag tl1), .one (.ag tl1), .one (.ag tl3), vl, vl, vl, vb, vb, .one (.ptr 4 0), vi, vb, vb, .one (.ptr 4 3), vl, vi, .one (.ptr 3 3), vl, vi, vb, vb, vl, .one (.ptr 3 3), vl, .one (.ptr 4 3), vl, vl, .tup [.c (.sl []), .c (.bool false)], vl, vb, vb, vb, .one (.ptr 4 0), vi, vb, vb, .one (.ptr 4 3), vl, vi, .one (.ptr 3 3), vl, vi, vb, vb, vl, .one (.ptr 3 3), vl, .one (.ptr 4 3), vl, vl, .tup [.c (.sl []), .c (.bool false)], vl, vb, .one (.ptr 3 3), vl, vi, vi, .one (.ptr 4 0), vi, vb, vb, .one (.ptr 4 3), vl, vi, vi, vb, vb, vl, .tup [.c (.sl []), .c (.bool false)], .one (.ptr 3 3), vl, vi, vl, .one (.ptr 4 3), vl, vi, vl, vl, .tup [.c (.sl []), .c (.bool false)], vl, vb, vb, vb, vl, .one (.ptr 3 3), vl, vi, .one (.cp tl0), .one (.ag tl0), .one (.ptr 4 3), vl, vi, vl, .one (.ag tl1), vl, .tup [.c (.sl []), .c (.bool false)], vl, vb], obs := [(3, tl0), (4, tl1)], tk := [11, 14, 16, 18, 20, 22, 27, 29, 31, 33, 35, 43, 45, 46, 51, 55, 57, 66, 68, 70, 71, 78, 80, 89, 91, 93, 94, 103, 105, 112, 113, 122, 126, 128, 130, 135, 136, 139], dp := [49, 50], keep := [(0, [2, 3, 4]), (1, [2, 3, 4, 11]), (2, [2, 3, 4, 11, 12]), (3, [6, 7]), (4, [2, 3, 4, 11, 25]), (5, [6, 7]), (6, [2, 3, 4, 11, 38]), (7, [2, 3, 4, 42]), (8, [2]), (9, [6, 7]), (10, [2, 3, 4, 11, 52]), (11, [2, 3, 4, 65]), (12, [6, 7]), (13, [6, 7]), (14, [2, 3, 4, 75]), (15, [2, 3, 4, 88]), (16, [6, 7]), (17, [6, 7]), (18, [2, 3, 4, 8]), (19, [2, 3, 4, 8, 111]), (20, [6, 7]), (21, [2, 3, 4, 8, 9]), (22, [2, 3, 4, 8, 127]), (23, [6, 7]), (24, [6, 7])] }
def F125 : FA := { n := 16, sh := [.one (.ag tl3), .one (.ag tl3), .one (.ptr 2 0), .one (.ptr 3 0), vb, .one (.ptr 2 0), vs, .one (.ptr 3 0), vs, vb, .one (.ptr 2 1), .one (.ag tl1), .one (.ptr 3 1), .one (.ag tl1), vb, vb], obs := [(2, tl3), (3, tl3)], tk := [6, 8, 11, 13], keep := [(0, [2, 3]), (1, [2, 3, 9]), (2, [4]), (3, [15]), (4, [4]), (5, [4])] }
def F132 : FA := { n := 8, sh := [.one (.ag tl1), .one (.ptr 1 0), .one (.ptr 2 0), .one (.ptr 1 3), vl, vl, .one (.ptr 1 3), .one (.ag tl1)], obs := [(1, tl1), (2, tl1)], tk := [4, 7], keep := [(0, [1, 2]), (1, [1, 2]), (2, [2])] }
def F133 : FA := { n := 32, sh := [.one (.ag tl1), vi, .one (.ptr 2 0), vj, vi, vi, vj, .one (.ptr 7 0), vi, vb, vb, .one (.ag tl1), vb, vb, vb, .one (.ptr 2 3), vl, vi, vi, vb, .one (.cp tl1), .one (.ag tl1), vi, .one (.ag tl1), vi, vi, vi, vi, vi, vb, vi, vi], obs := [(2, tl1), (7, tl1)], tk := [10, 16, 18, 22, 23, 31], keep := [(0, [1, 2]), (1, [1, 2, 14]), (2, [4]), (3, [1, 2, 5]), (4, [1, 5, 16, 17, 18]), (5, [1, 5, 16, 17, 18, 19]), (6, [1, 5, 7, 16, 17, 18]), (7, [1, 5, 16, 17, 18]), (8, [1, 5, 16, 17, 18, 29]), (9, [4]), (10, [1, 5, 16, 17, 18]), (11, [4])] }
def F156 : FA := { n := 19, sh := [vl, vs, vj, vj, vi, vi, vl, vi, vi, vb, vi, vs, vl, vi, .one (.cp [.str []]), vs, vb, vi, vi], obs := [], tk := [8, 17], keep := [(0, [0, 1]), (1, [0, 1, 7, 8]), (2, [0, 1, 7, 8, 9]), (3, [0, 1, 5, 7, 8]), (4, [0, 1, 5, 7, 8, 16]), (5, [4]), (6, [0, 1, 7, 8]), (7, [4])] }
def F181 : FA := { n := 18, sh := [.one (.ag tl2), vi, .one (.ptr 2 0), vj, vi, .one (.ptr 2 0), .one (.ag tl0), vi, vi, vi, vb, .one (.ptr 2 5), .one (.ag tl0), vi, vi, vi, vb, vi], obs := [(2, tl2)], tk := [6, 7, 12, 13, 17], keep := [(0, [1, 2]), (1, [1, 2]), (2, [1, 2, 10]), (3, [4]), (4, [1]), (5, [1, 16]), (6, [4]), (7, [4])] }
def F182 : FA := { n := 27, sh := [.one (.ag tl1), .one (.ptr 1 0), .one (.ptr 2 0), .one (.ptr 3 0), vi, .one (.ag tl1), vl, .one (.ptr 3 3), vi, .one (.ptr 1 3), vl, vi, vb, vi, vi, .one (.ptr 3 3), vl, .one (.ptr 1 3), vl, vi, .one (.cp tl1), .one (.ag tl1), .one (.ag tl1), vl, vl, .one (.ptr 3 3), .one (.ag tl1)], obs := [(1, tl1), (2, tl1), (3, tl1)], tk := [13, 16, 26], dp := [6, 23, 24], keep := [(0, [1, 2]), (1, [1, 2, 3]), (2, [1, 2, 3]), (3, [1, 2, 3, 4]), (4, [1, 2, 3, 4, 12]), (5, [1, 2, 3, 4]), (6, [1, 2, 3, 4]), (7, [2])] }
def F183 : FA := { n := 89, sh := [.one (.ag tl0), vb, vi, vi, .one (.ptr 4 0), vj, vj, vj, vi, vi, vi, vi, vb, vb, vi, vb, vb, vb, .one (.ag tl0), vb, vb, vb, vb, vi, vi, vi, .one (.ptr 4 3), vl, vi, vb, vb, vi, vb, vb, vi, vi, .one (.ptr 4 3), vl, vi, .one (.cp tl0), .one (.ag tl0), vb, vi, vi, vi, vi, vi, .one (.ptr 4 4), vl, vi, vb, vb, vi, vb, vb, vi, vi, .one (.ptr 4 4), vl, vi, .one (.cp tl2), .one (.cp tl2), .one (.ag tl0), vl, vb, vb, .one (.ptr 4 4), vl, vi, .one (.cp tl2), .one (.cp tl2), .one (.ag tl0), vi, vi, vi, vi, vi, vb, .one (.ptr 4 4), vl, vi, .one (.cp tl2), .one (.cp tl0), .one (.ag tl0), vi, vi, vi, vi, vi], obs := [(4, tl0)], tk := [13, 17, 23, 30, 34, 44, 51, 55, 74, 86, 88], keep := [(0, [1, 2, 3, 4]), (1, [1, 2, 3, 4, 22]), (2, [8]), (3, [1, 2, 3, 4]), (4, [1, 2, 3, 4, 9]), (5, [1, 2, 3, 4, 9, 33]), (6, [1, 2, 3, 4, 9]), (7, [1, 2, 3, 4, 9]), (8, [2, 3, 4, 10]), (9, [2, 3, 4, 10, 54]), (10, [2, 3, 4, 10]), (11, [2, 3, 4, 10, 65]), (12, [8]), (13, [2, 3, 4, 10]), (14, [2, 3, 4, 10, 77]), (15, [2, 3, 4, 10]), (16, [8])] }
def F184 : FA := { n := 34, sh := [.one (.ag tl0), .one (.ptr 1 0), vl, vl, vi, vl, .one (.ptr 1 0), vi, vb, .one (.ptr 1 2), vs, vb, vl, .one (.ptr 1 2), vs, vl, vl, vl, vi, .one (.ptr 1 3), vl, vi, vb, vi, vi, vl, .one (.ptr 1 3), vl, vi, .one (.cp tl0), .one (.ag tl0), vl, vl, vl], obs := [(1, tl0)], tk := [7, 12, 14, 17, 23, 25, 33], dp := [5, 15, 16, 32], keep := [(0, [1]), (1, [1, 3]), (2, [1, 3, 8]), (3, [1, 3, 11]), (4, [3]), (5, [2]), (6, [1, 3, 4]), (7, [1, 3, 4, 22]), (8, [1, 3, 4]), (9, [1, 3, 4]), (10, [2])] }
def F185 : FA := { n := 42, sh := [.one (.ag tl1), vi, vi, .one (.ptr 3 0), vj, vj, vi, vi, vi, vb, vb, vi, vb, vb, vb, .one (.ag tl1), vb, vb, vb, vi, vi, vi, .one (.ptr 3 3), vl, vi, vb, vb, vi, vb, vb, vi, vi, .one (.ptr 3 3), vl, vi, .one (.cp tl1), .one (.ag tl1), vi, vi, vi, vi, vi], obs := [(3, tl1)], tk := [10, 14, 19, 26, 30, 39, 41], keep := [(0, [1, 2, 3]), (1, [1, 2, 3, 18]), (2, [6]), (3, [1, 2, 3]), (4, [1, 2, 3, 7]), (5, [1, 2, 3, 7, 29]), (6, [1, 2, 3, 7]), (7, [1, 2, 3, 7]), (8, [6])] }
def F186 : FA := { n := 25, sh := [vl, vl, .one (.ptr 1000000 0), vj, vj, vj, vb, vi, vi, vl, vi, vb, vi, vi, vl, vi, .one (.cp tl0), .one (.ag tl0), vl, vi, .one (.cp tl1), .one (.ag tl1), .one (.ptr 1000000 0), vb, vb], obs := [(1000000, [.sl []])], tk := [12], keep := [(0, [0, 1, 2]), (1, [0, 1, 2, 7]), (2, [0, 1, 2, 7, 11]), (3, [0, 1, 2, 7]), (4, [0, 1, 2, 7, 24]), (5, [6]), (6, [6])] }
def F187 : FA := { n := 13, sh := [.one (.ag tl2), .one (.ptr 1 0), .one (.ptr 2 0), .one (.ptr 3 0), .one (.ptr 1 0), .one (.ag tl0), .one (.ag tl0), .one (.ptr 3 0), .one (.ptr 1 5), .one (.ag tl0), .one (.ag tl0), .one (.ptr 3 5), .one (.ag tl2)], obs := [(1, tl2), (2, tl2), (3, tl2)], tk := [5, 9, 12], keep := [(0, [1, 2]), (1, [1, 2, 3]), (2, [1, 2, 3]), (3, [2, 3]), (4, [2])] }
def F188 : FA := { n := 17, sh := [.one (.ag tl2), .one (.ag tl2), .one (.ptr 2 0), .one (.ptr 3 0), vb, .one (.ptr 2 0), .one (.ag tl0), .one (.ptr 3 0), .one (.ag tl0), vb, vb, .one (.ptr 2 5), .one (.ag tl0), .one (.ptr 3 5), .one (.ag tl0), vb, vb], obs := [(2, tl2), (3, tl2)], tk := [6, 8, 12, 14], keep := [(0, [2, 3]), (1, [2, 3, 10]), (2, [4]), (3, [16]), (4, [4]), (5, [4])] }
def F192 : FA := { n := 89, sh := [.one (.ptr 1000000 0), .one (.ag tl0), vi, vj, .one (.ptr 4 0), vj, vb, vj, .one (.ptr 8 0), .one (.ptr 1000000 0), .one (.ptr 1000000 0), .one (.ptr 1000000 0), vi, vi, .one (.ptr 1000000 0), .one (.ptr 1000000 0), vi, vb, vb, .one (.ptr 1000000 0), .one (.ptr 1000000 0), .one (.ptr 1000000 0), vi, vb, vb, vb, .one (.ptr 4 0), vi, vb, vb, vb, .one (.ptr 4 4), vl, vi, vb, vb, vb, .one (.ptr 4 0), vi, .one (.ptr 4 1), vi, .one (.ptr 4 2), vs, .one (.ptr 4 3), vl, vi, vb, vb, vb, .one (.ptr 4 0), vi, vb, vb, .one (.ptr 4 2), vs, vb, vb, .one (.ptr 1000000 0), .one (.ptr 1000000 0), .one (.ptr 1000000 1), vl, .one (.ptr 4 2), vs, vb, .one (.ptr 1000000 0), .one (.ptr 1000000 0), .one (.ptr 1000000 0), .one (.ptr 1000000 1), vl, .one (.ptr 4 2), vs, vl, vl, .one (.ptr 1000000 0), .one (.ptr 1000000 1), .one (.ptr 4 3), vl, vi, vi, vb, .one (.cp tl0), .one (.ag tl0), .one (.ptr 1000000 0), .one (.ag tl0), vi, vi, vb, vb, vi], obs := [(4, tl0), (8, tl0), (1000000, [.int .i64 0, .sl []])], tk := [12, 18, 25, 30, 32, 36, 40, 50, 52, 68, 70, 76, 78, 83], dp := [71], keep := [(0, [0, 2, 4]), (1, [0, 2, 4]), (2, [0, 2, 4, 48]), (3, [6]), (4, [0, 2, 4, 56]), (5, [0, 2, 4, 63]), (6, [6]), (7, [0, 2, 4]), (8, [0, 2, 76, 77, 78]), (9, [0, 2, 76, 77, 78, 79]), (10, [0, 2, 8, 76, 77, 78]), (11, [0, 2, 76, 77, 78, 87]), (12, [6]), (13, [0, 2, 76, 77, 78]), (14, [6])] }
def F193 : FA := { n := 33, sh := [vl, vl, vl, vj, vj, vj, vl, vb, vb, vi, .one (.ptr 10 0), vl, vi, vi, vb, vi, .one (.cp tl0), .one (.ag tl0), .tup [.c (.sl []), .c (.bool false)], .one (.ag tl0), vl, vi, .one (.cp tl1), .one (.ag tl1), vl, .tup [.c (.sl []), .c (.bool false)], vl, vb, vb, vb, vl, vi, vl], obs := [(10, tl0)], tk := [11, 13, 18, 19, 21, 24, 28, 30, 32], keep := [(0, [0, 1, 2]), (1, [0, 1, 2]), (2, [1, 2, 11, 12, 13]), (3, [1, 2, 11, 12, 13, 14]), (4, [1, 2, 9, 10, 11, 12, 13]), (5, [1, 2, 8, 11, 12, 13]), (6, [1, 2, 11, 12, 13, 29]), (7, [6, 7]), (8, [1, 2, 11, 12, 13]), (9, [6, 7])] }
def F194 : FA := { n := 36, sh := [vs, vj, vb, vi, vi, vb, vi, vs, vi, vb, vi, vi, vs, vi, vy, vi, vi, vb, vb, vb, vb, vi, vb, vb, vi, vb, vb, vb, vi, vb, vb, vb, vb, vs, vi, vb], obs := [], tk := [10, 18, 20, 23, 27, 28, 33], keep := [(0, [0]), (1, [0, 3]), (2, [0, 3, 9]), (3, [0, 3]), (4, [0, 3, 4]), (5, [0, 3, 4, 5]), (6, [0, 3, 32]), (7, [2]), (8, [2])] }
def F196 : FA := { n := 35, sh := [vs, vj, vb, vi, vi, vs, vi, vb, vi, vi, vs, vi, vy, vb, vb, vb, vi, vb, vb, vs, vi, vy, vb, vb, vb, vs, vi, vy, vb, vb, vb, vb, vs, vi, vb], obs := [], tk := [8, 15, 18, 24, 32], keep := [(0, [0]), (1, [0, 3]), (2, [0, 3, 7]), (3, [0, 3]), (4, [0, 3, 31]), (5, [2]), (6, [2])] }
def F203 : FA := { n := 85, sh := [.one (.ag tl1), .one (.ptr 1 0), vb, .one (.ptr 1 0), vi, vb, vb, .one (.ptr 1 1), vi, vb, vb, .one (.ptr 1 2), vs, vb, vb, vb, .one (.ptr 1 3), vl, vi, vb, vb, vb, vb, .one (.ptr 1 1), vi, vb, vb, .one (.ptr 1 2), vs, vb, vb, vb, .one (.ptr 1 3), vl, vi, vb, vb, vb, vb, .one (.ptr 1 1), vi, vb, vb, .one (.ptr 1 2), vs, vb, vb, vb, .one (.ptr 1 3), vl, vi, vb, vb, vb, vb, .one (.ptr 1 1), vi, vb, vb, .one (.ptr 1 2), vs, vb, vb, vb, .one (.ptr 1 3), vl, vi, vb, vb, vb, vb, .one (.ptr 1 1), vi, vb, vb, .one (.ptr 1 2), vs, vb, vb, vb, .one (.ptr 1 3), vl, vi, vb, vb], obs := [(1, tl1)], tk := [4, 8, 10, 12, 15, 17, 24, 26, 28, 31, 33, 40, 42, 44, 47, 49, 56, 58, 60, 63, 65, 72, 74, 76, 79, 81], keep := [(0, [1]), (1, [1, 4]), (2, [1, 4, 5]), (3, [2]), (4, [1, 4, 21]), (5, [2]), (6, [1, 4, 37]), (7, [2]), (8, [1, 4, 53]), (9, [2]), (10, [1, 69]), (11, [2]), (12, [2])] }
def F223 : FA := { n := 36, sh := [vs, vj, vb, vi, vi, vs, vi, vb, vi, vi, vs, vi, vy, vb, vb, vb, vi, vb, vb, vs, vi, vy, vb, vb, vb, vs, vi, vy, vb, vb, vb, vb, vb, vs, vi, vb], obs := [], tk := [8, 15, 18, 24, 33], keep := [(0, [0]), (1, [0, 3]), (2, [0, 3, 7]), (3, [0, 3]), (4, [0, 3, 32]), (5, [2]), (6, [2])] }
def F224 : FA := { n := 10, sh := [vs, vj, vb, vs, vb, vb, vs, vb, vb, vb], obs := [], tk := [5, 6], keep := [(0, [0]), (1, [2])] }
def F227 : FA := { n := 23, sh := [vs, vj, vb, vi, vi, vs, vi, vb, vi, vi, vs, vi, vy, vb, vb, vs, vi, vb, vb, vs, vy, vb, vb], obs := [], tk := [8, 18, 19], keep := [(0, [0]), (1, [0, 3]), (2, [0, 3, 7]), (3, [0, 3]), (4, [0, 3, 14]), (5, [2]), (6, [2])] }
def F228 : FA := { n := 17, sh := [vs, vj, vb, vs, vb, vb, vs, vb, vb, vb, vs, vb, vb, vb, vs, vb, vb], obs := [], tk := [5, 9, 13, 14], keep := [(0, [0]), (1, [2])] }
def F232 : FA := { n := 134, sh := [.one (.ag tl0), vb, .one (.ptr 2 0), vj, vb, vi, .one (.ptr 2 3), vl, vi, .one (.ptr 2 0), vi, vb, vb, .one (.ptr 2 4), vl, vi, vb, vb, vb, .one (.ptr 2 0), vi, vb, vb, .one (.ptr 2 1), vi, vb, vb, vb, .one (.ptr 2 0), vi, vb, vb, .one (.ptr 2 1), vi, vb, vb, .one (.ptr 2 2), vs, vb, vb, vb, vi, vb, vb, vb, vb, .one (.ptr 2 2), vs, vb, vb, vi, vb, vb, vb, vb, .one (.ptr 2 2), vs, vb, vb, vi, vb, vb, vb, vb, vb, .one (.ptr 2 2), vs, vb, vb, vb, vb, vb, vb, .one (.ptr 2 2), vs, vb, vb, vi, vb, vb, vb, vb, .one (.ptr 2 2), vs, vb, vb, vi, vb, vb, vb, vb, vb, vb, vb, .one (.ptr 2 2), vs, vb, vb, vb, vi, vb, vb, vb, vb, vb, vb, vb, .one (.ptr 2 2), vs, vb, vb, vb, vi, vb, vb, vb, vb, vb, vb, vb, .one (.ptr 2 2), vs, vb, vb, vb, vi, vb, vb, vb, .one (.ptr 2 4), vl, vi, vb, vb], obs := [(2, tl0)], tk := [7, 12, 18, 22, 29, 33, 35, 37, 40, 41, 47, 49, 50, 58, 59, 62, 63, 64, 66, 74, 76, 77, 83, 85, 86, 91, 93, 95, 98, 99, 104, 106, 108, 111, 112, 117, 119, 121, 124, 125, 128, 130], keep := [(0, [1, 2]), (1, [1, 2, 5]), (2, [1, 2, 5, 27]), (3, [4]), (4, [1, 2, 5, 29]), (5, [1, 2, 5, 29, 30]), (6, [4]), (7, [1, 2, 5, 29, 44]), (8, [4]), (9, [1, 2, 5, 29, 53]), (10, [4]), (11, [1, 2, 5, 29, 70]), (12, [1, 2, 5, 29, 70]), (13, [4]), (14, [1, 2, 5, 29, 80]), (15, [4]), (16, [1, 2, 5, 29, 89]), (17, [4]), (18, [1, 2, 5, 29, 102]), (19, [4]), (20, [1, 2, 5, 115]), (21, [4]), (22, [4])] }
def F233 : FA := { n := 85, sh := [.one (.ag tl1), .one (.ptr 1 0), vb, .one (.ptr 1 0), vi, vb, vb, .one (.ptr 1 1), vi, vb, vb, .one (.ptr 1 2), vs, vb, vb, vb, .one (.ptr 1 3), vl, vi, vb, vb, vb, vb, .one (.ptr 1 2), vs, vb, vb, .one (.ptr 1 1), vi, vb, vb, vb, .one (.ptr 1 3), vl, vi, vb, vb, vb, vb, .one (.ptr 1 1), vi, vb, vb, .one (.ptr 1 2), vs, vb, vb, vb, .one (.ptr 1 3), vl, vi, vb, vb, vb, vb, .one (.ptr 1 1), vi, vb, vb, .one (.ptr 1 2), vs, vb, vb, vb, .one (.ptr 1 3), vl, vi, vb, vb, vb, vb, .one (.ptr 1 1), vi, vb, vb, .one (.ptr 1 2), vs, vb, vb, vb, .one (.ptr 1 3), vl, vi, vb, vb], obs := [(1, tl1)], tk := [4, 8, 10, 12, 15, 17, 24, 26, 28, 31, 33, 40, 42, 44, 47, 49, 56, 58, 60, 63, 65, 72, 74, 76, 79, 81], keep := [(0, [1]), (1, [1, 4]), (2, [1, 4, 5]), (3, [2]), (4, [1, 4, 21]), (5, [2]), (6, [1, 4, 37]), (7, [2]), (8, [1, 4, 53]), (9, [2]), (10, [1, 69]), (11, [2]), (12, [2])] }
def F234 : FA := { n := 107, sh := [vi, vi, vs, vi, vj, vj, vj, vj, vb, vi, vb, vb, vi, vb, vb, vs, vb, vb, vb, vi, vb, vb, vb, vb, vi, vb, vb, vs, vb, vb, vb, vi, vb, vb, vb, vb, vi, vb, vb, vs, vb, vb, vb, vi, vb, vb, vb, vb, vb, vi, vb, vb, vs, vb, vb, vb, vi, vb, vb, vb, vb, vi, vb, vb, vs, vb, vb, vb, vi, vb, vb, vb, vb, vi, vb, vb, vs, vb, vb, vb, vi, vb, vb, vb, vb, vi, vb, vb, vs, vb, vb, vb, vi, vb, vb, vb, vb, vi, vb, vb, vs, vb, vb, vb, vi, vb, vb], obs := [], tk := [9, 12, 14, 15, 18, 19, 24, 26, 27, 30, 31, 36, 38, 39, 42, 43, 49, 51, 52, 55, 56, 61, 63, 64, 67, 68, 73, 75, 76, 79, 80, 85, 87, 88, 91, 92, 97, 99, 100, 103, 104], keep := [(0, [0, 1, 2, 3]), (1, [1, 2, 3, 9]), (2, [1, 2, 3, 9, 10]), (3, [8]), (4, [1, 2, 3, 9, 22]), (5, [8]), (6, [1, 2, 3, 9, 34]), (7, [8]), (8, [1, 2, 3, 9, 46]), (9, [1, 2, 3, 9, 46]), (10, [8]), (11, [1, 2, 3, 9, 59]), (12, [8]), (13, [1, 2, 3, 9, 71]), (14, [8]), (15, [1, 2, 3, 9, 83]), (16, [8]), (17, [1, 2, 3, 95]), (18, [8]), (19, [8])] }
def F236 : FA := { n := 9, sh := [vy, vj, vb, vy, vb, vb, vy, vb, vb], obs := [], tk := [5, 6], keep := [(0, [0]), (1, [2])] }
def F237 : FA := { n := 9, sh := [vy, vj, vb, vy, vb, vb, vy, vb, vb], obs := [], tk := [5, 6], keep := [(0, [0]), (1, [2])] }
def F253 : FA := { n := 10, sh := [vy, vj, vb, vy, vi, vb, vb, vy, vb, vb], obs := [], tk := [6, 7], keep := [(0, [0]), (1, [2])] }
def F254 : FA := { n := 6, sh := [vy, vj, vb, vy, vi, vb], obs := [], tk := [3], keep := [(0, [0]), (1, [2])] }
def F255 : FA := { n := 6, sh := [vy, vj, vb, vy, vi, vb], obs := [], tk := [3], keep := [(0, [0]), (1, [2])] }
def F256 : FA := { n := 13, sh := [vs, vj, vb, vs, vb, vb, vs, vb, vb, vb, vs, vb, vb], obs := [], tk := [5, 9, 10], keep := [(0, [0]), (1, [2])] }
def F257 : FA := { n := 13, sh := [vy, vj, vb, vy, vb, vb, vy, vb, vb, vb, vy, vb, vb], obs := [], tk := [5, 9, 10], keep := [(0, [0]), (1, [2])] }
def F258 : FA := { n := 13, sh := [vy, vj, vb, vy, vb, vb, vy, vb, vb, vb, vy, vb, vb], obs := [], tk := [5, 9, 10], keep := [(0, [0]), (1, [2])] }
def F260 : FA := { n := 21, sh := [vs, vj, vb, vs, vb, vb, vs, vb, vb, vb, vs, vb, vb, vb, vs, vb, vb, vb, vs, vb, vb], obs := [], tk := [5, 9, 13, 17, 18], keep := [(0, [0]), (1, [2])] }
def F261 : FA := { n := 10, sh := [vs, vj, vb, vs, vb, vb, vb, vb, vb, vb], obs := [], tk := [3], keep := [(0, [0]), (1, [3]), (2, [3, 4]), (3, [3, 4]), (4, [3, 4]), (5, [3, 4]), (6, [4]), (7, [2]), (8, [2])] }
def An : FuncId → FA
  | 8 => F8
  | 31 => F31
  | 32 => F32
  | 34 => F34
  | 35 => F35
  | 37 => F37
  | 38 => F38
  | 39 => F39
  | 41 => F41
  | 44 => F44
  | 49 => F49
  | 50 => F50
  | 51 => F51
  | 52 => F52
  | 53 => F53
  | 54 => F54
  | 55 => F55
  | 61 => F61
  | 69 => F69
  | 72 => F72
  | 75 => F75
  | 77 => F77
  | 88 => F88
  | 96 => F96
  | 104 => F104
  | 105 => F105
  | 107 => F107
  | 108 => F108
  | 109 => F109
  | 110 => F110
  | 111 => F111
  | 112 => F112
  | 114 => F114
  | 115 => F115
  | 116 => F116
  | 117 => F117
  | 123 => F123
  | 124 => F124
  | 125 => F125
  | 132 => F132
  | 133 => F133
  | 156 => F156
  | 181 => F181
  | 182 => F182
  | 183 => F183
  | 184 => F184
  | 185 => F185
  | 186 => F186
  | 187 => F187
  | 188 => F188
  | 192 => F192
  | 193 => F193
  | 194 => F194
  | 196 => F196
  | 203 => F203
  | 223 => F223
  | 224 => F224
  | 227 => F227
  | 228 => F228
  | 232 => F232
  | 233 => F233
  | 234 => F234
  | 236 => F236
  | 237 => F237
  | 253 => F253
  | 254 => F254
  | 255 => F255
  | 256 => F256
  | 257 => F257
  | 258 => F258
  | 260 => F260
  | 261 => F261
  | _ => { n := 0, sh := [], obs := [] }
abbrev sg8 : Sg := { bi := ⟨[(0, [[.S, .S, .S, .F, .F]]), (1, [[.S, .S, .S, .F]])], []⟩, bo := ⟨[(0, [[.S]])], []⟩, np := 2, ext := false }
abbrev sg31 : Sg := { bi := ⟨[(0, [[.S, .S, .S, .F, .F]]), (1, [[.S]])], []⟩, bo := ⟨[(0, [[.S]])], []⟩, np := 2, ext := false }
abbrev sg32 : Sg := { bi := ⟨[(0, [[.F]]), (1, [[.S]])], []⟩, bo := ⟨[(0, [[.S]])], []⟩, np := 2, ext := false }
abbrev sg34 : Sg := { bi := ⟨[(0, [[.S, .S, .S, .F, .F]])], []⟩, bo := ⟨[(0, [[.S, .S, .S, .U 5, .U 10]])], []⟩, np := 1, ext := false }
abbrev sg35 : Sg := { bi := ⟨[(0, [[.F]])], []⟩, bo := ⟨[(0, [[.U 4]])], []⟩, np := 1, ext := false }
abbrev sg37 : Sg := { bi := ⟨[(0, [[.S, .S, .S, .F]]), (1, [[.S, .S, .S, .F]])], []⟩, bo := ⟨[(0, [[.S]])], []⟩, np := 2, ext := false }
abbrev sg38 : Sg := { bi := ⟨[(0, [[.F]]), (1, [[.F]])], []⟩, bo := ⟨[(0, [[.S]])], []⟩, np := 2, ext := false }
abbrev sg39 : Sg := { bi := ⟨[(0, [[.S, .S, .S, .F, .F]]), (1, [[.S, .S, .S, .F, .F]])], []⟩, bo := ⟨[(0, [[.S]])], []⟩, np := 2, ext := false }
abbrev sg41 : Sg := { bi := ⟨[(0, [[.U 0]]), (1, [[.S]])], []⟩, bo := ⟨[(0, [[.S]]), (1, [[.U 0]])], []⟩, np := 2, io := some 0 }
abbrev sg44 : Sg := { bi := ⟨[(0, [[.F]]), (1, [[.S]])], []⟩, bo := ⟨[(0, [[.S]])], []⟩, np := 2, ext := false }
abbrev sg49 : Sg := { bi := ⟨[(0, [[.S, .S, .S, .F, .F]]), (1, [[.S, .S, .S, .F]])], []⟩, bo := ⟨[(0, [[.U 5], [.S]])], []⟩, np := 2, ext := false }
abbrev sg50 : Sg := { bi := ⟨[(0, [[.S, .S, .S, .F]]), (1, [[.S]])], []⟩, bo := ⟨[(0, [[.S]])], []⟩, np := 2, ext := false }
abbrev sg51 : Sg := { bi := ⟨[(0, [[.S, .S, .S, .F, .F]]), (1, [[.S, .S, .S, .F]])], []⟩, bo := ⟨[(0, [[.A 5], [.S]])], []⟩, np := 2 }
abbrev sg52 : Sg := { bi := ⟨[(0, [[.S, .S, .S, .F]])], []⟩, bo := ⟨[(0, [[.S, .S, .S, .U 4]])], []⟩, np := 1, ext := false }
abbrev sg53 : Sg := { bi := ⟨[(0, [[.F]]), (1, [[.F]])], []⟩, bo := ⟨[(0, [[.S]])], []⟩, np := 2, ext := false }
abbrev sg54 : Sg := { bi := ⟨[(0, [[.U 0]]), (1, [[.S]])], []⟩, bo := ⟨[(0, [[.S]]), (1, [[.U 0]])], []⟩, np := 2, io := some 0 }
abbrev sg55 : Sg := { bi := ⟨[(0, [[.F]]), (1, [[.S]])], []⟩, bo := ⟨[(0, [[.S]])], []⟩, np := 2, ext := false }
abbrev sg61 : Sg := { bi := ⟨[(0, [[.S, .S, .S, .F]])], []⟩, bo := ⟨[(0, [[.S]])], []⟩, np := 1, ext := false }
abbrev sg69 : Sg := { bi := ⟨[(0, [[.S]]), (1, [[.S]]), (2, [[.S]])], []⟩, bo := ⟨[(0, [[.S]])], []⟩, np := 3, ext := false }
abbrev sg72 : Sg := { bi := ⟨[(0, [[.F]])], []⟩, bo := ⟨[(0, [[.S]])], []⟩, np := 1, ext := false }
abbrev sg75 : Sg := { bi := ⟨[(0, [[.S]]), (1, [[.S]]), (2, [[.S]])], []⟩, bo := ⟨[(0, [[.S]])], []⟩, np := 3, ext := false }
abbrev sg77 : Sg := { bi := ⟨[(0, [[.F]]), (1, [[.S]])], []⟩, bo := ⟨[(0, [[.S]])], []⟩, np := 2, ext := false }
abbrev sg88 : Sg := { bi := ⟨[(0, [[.S]])], []⟩, bo := ⟨[(0, [[.S]])], []⟩, np := 1, ext := false }
abbrev sg96 : Sg := { bi := ⟨[(0, [[.F]]), (1, [[.S]])], []⟩, bo := ⟨[(0, [[.S]])], []⟩, np := 2, ext := false }
abbrev sg104 : Sg := { bi := ⟨[(0, [[.F]]), (1, [[.S]])], []⟩, bo := ⟨[(0, [[.S]])], []⟩, np := 2, ext := false }
abbrev sg105 : Sg := { bi := ⟨[(0, [[.F]]), (1, [[.S]])], []⟩, bo := ⟨[(0, [[.S]])], []⟩, np := 2, ext := false }
abbrev sg107 : Sg := { bi := ⟨[(0, [[.S, .S, .S, .F, .F]])], []⟩, bo := ⟨[(0, [[.S]])], []⟩, np := 1, ext := false }
abbrev sg108 : Sg := { bi := ⟨[(0, [[.S, .S, .S, .F]])], []⟩, bo := ⟨[(0, [[.S]])], []⟩, np := 1, ext := false }
abbrev sg109 : Sg := { bi := ⟨[(0, [[.S, .S, .S, .F, .F]]), (1, [[.S, .S, .S, .F]]), (2, [[.S]])], [(1000000, [.A 5])]⟩, bo := ⟨[(0, [[.S]])], [(1000000, [.A 5])]⟩, np := 3, no := 1 }
abbrev sg110 : Sg := { bi := ⟨[(0, [[.F]])], []⟩, bo := ⟨[(0, [[.U 5]])], []⟩, np := 1, ext := false }
abbrev sg111 : Sg := { bi := ⟨[(0, [[.F]])], []⟩, bo := ⟨[(0, [[.U 10]])], []⟩, np := 1, ext := false }
abbrev sg112 : Sg := { bi := ⟨[(0, [[.F]])], []⟩, bo := ⟨[(0, [[.U 4]])], []⟩, np := 1, ext := false }
abbrev sg114 : Sg := { bi := ⟨[(0, [[.F]]), (1, [[.F]])], []⟩, bo := ⟨[(0, [[.S]])], []⟩, np := 2, ext := false }
abbrev sg115 : Sg := { bi := ⟨[(0, [[.F]]), (1, [[.F]])], []⟩, bo := ⟨[(0, [[.S]])], []⟩, np := 2, ext := false }
abbrev sg116 : Sg := { bi := ⟨[(0, [[.U 0]]), (1, [[.S]])], []⟩, bo := ⟨[(0, [[.S]]), (1, [[.U 0]])], []⟩, np := 2, io := some 0 }
abbrev sg117 : Sg := { bi := ⟨[(0, [[.U 0]]), (1, [[.S]])], []⟩, bo := ⟨[(0, [[.S]]), (1, [[.U 0]])], []⟩, np := 2, io := some 0 }
abbrev sg123 : Sg := { bi := ⟨[(0, [[.S, .S, .S, .F, .F]])], []⟩, bo := ⟨[(0, [[.S]])], []⟩, np := 1, ext := false }
abbrev sg124 : Sg := { bi := ⟨[(0, [[.S, .S, .S, .F, .F]]), (1, [[.S, .S, .S, .F]]), (2, [[.U 5]])], []⟩, bo := ⟨[(0, [[.U 5], [.S]])], []⟩, np := 3 }
abbrev sg125 : Sg := { bi := ⟨[(0, [[.S, .S, .S, .S, .F]]), (1, [[.S, .S, .S, .S, .F]])], []⟩, bo := ⟨[(0, [[.S]])], []⟩, np := 2, ext := false }
abbrev sg132 : Sg := { bi := ⟨[(0, [[.S, .S, .S, .F]])], []⟩, bo := ⟨[(0, [[.S, .S, .S, .U 4]])], []⟩, np := 1, ext := false }
abbrev sg133 : Sg := { bi := ⟨[(0, [[.S, .S, .S, .F]]), (1, [[.S]])], []⟩, bo := ⟨[(0, [[.S]])], []⟩, np := 2, ext := false }
abbrev sg156 : Sg := { bi := ⟨[(0, [[.F]]), (1, [[.S]])], []⟩, bo := ⟨[(0, [[.S]])], []⟩, np := 2, ext := false }
abbrev sg181 : Sg := { bi := ⟨[(0, [[.S, .S, .S, .F, .F, .S, .S, .S, .F, .F]]), (1, [[.S]])], []⟩, bo := ⟨[(0, [[.S]])], []⟩, np := 2, ext := false }
abbrev sg182 : Sg := { bi := ⟨[(0, [[.S, .S, .S, .F]])], []⟩, bo := ⟨[(0, [[.S, .S, .S, .U 4]])], []⟩, np := 1, ext := false }
abbrev sg183 : Sg := { bi := ⟨[(0, [[.S, .S, .S, .F, .F]]), (1, [[.S]]), (2, [[.S]]), (3, [[.S]])], []⟩, bo := ⟨[(0, [[.S]])], []⟩, np := 4, ext := false }
abbrev sg184 : Sg := { bi := ⟨[(0, [[.S, .S, .S, .F, .F]])], []⟩, bo := ⟨[(0, [[.U 1]])], []⟩, np := 1, ext := false }
abbrev sg185 : Sg := { bi := ⟨[(0, [[.S, .S, .S, .F]]), (1, [[.S]]), (2, [[.S]])], []⟩, bo := ⟨[(0, [[.S]])], []⟩, np := 3, ext := false }
abbrev sg186 : Sg := { bi := ⟨[(0, [[.F]]), (1, [[.F]]), (2, [[.S]])], [(1000000, [.A 5])]⟩, bo := ⟨[(0, [[.S]])], [(1000000, [.A 5])]⟩, np := 3, no := 1 }
abbrev sg187 : Sg := { bi := ⟨[(0, [[.S, .S, .S, .F, .F, .S, .S, .S, .F, .F]])], []⟩, bo := ⟨[(0, [[.S, .S, .S, .U 5, .U 10, .S, .S, .S, .U 5, .U 10]])], []⟩, np := 1, ext := false }
abbrev sg188 : Sg := { bi := ⟨[(0, [[.S, .S, .S, .F, .F, .S, .S, .S, .F, .F]]), (1, [[.S, .S, .S, .F, .F, .S, .S, .S, .F, .F]])], []⟩, bo := ⟨[(0, [[.S]])], []⟩, np := 2, ext := false }
abbrev sg192 : Sg := { bi := ⟨[(0, [[.S]]), (1, [[.S, .S, .S, .F, .F]]), (2, [[.S]])], [(1000000, [.S, .A 1])]⟩, bo := ⟨[(0, [[.S]])], [(1000000, [.S, .A 1])]⟩, np := 3, no := 1 }
abbrev sg193 : Sg := { bi := ⟨[(0, [[.F]]), (1, [[.F]]), (2, [[.U 5]])], []⟩, bo := ⟨[(0, [[.U 5], [.S]])], []⟩, np := 3 }
abbrev sg194 : Sg := { bi := ⟨[(0, [[.S]])], []⟩, bo := ⟨[(0, [[.S]])], []⟩, np := 1, ext := false }
abbrev sg196 : Sg := { bi := ⟨[(0, [[.S]])], []⟩, bo := ⟨[(0, [[.S]])], []⟩, np := 1, ext := false }
abbrev sg203 : Sg := { bi := ⟨[(0, [[.S, .S, .S, .F]])], []⟩, bo := ⟨[(0, [[.S]])], []⟩, np := 1, ext := false }
abbrev sg223 : Sg := { bi := ⟨[(0, [[.S]])], []⟩, bo := ⟨[(0, [[.S]])], []⟩, np := 1, ext := false }
abbrev sg224 : Sg := { bi := ⟨[(0, [[.S]])], []⟩, bo := ⟨[(0, [[.S]])], []⟩, np := 1, ext := false }
abbrev sg227 : Sg := { bi := ⟨[(0, [[.S]])], []⟩, bo := ⟨[(0, [[.S]])], []⟩, np := 1, ext := false }
abbrev sg228 : Sg := { bi := ⟨[(0, [[.S]])], []⟩, bo := ⟨[(0, [[.S]])], []⟩, np := 1, ext := false }
abbrev sg232 : Sg := { bi := ⟨[(0, [[.S, .S, .S, .F, .F]]), (1, [[.S]])], []⟩, bo := ⟨[(0, [[.S]])], []⟩, np := 2, ext := false }
abbrev sg233 : Sg := { bi := ⟨[(0, [[.S, .S, .S, .F]])], []⟩, bo := ⟨[(0, [[.S]])], []⟩, np := 1, ext := false }
abbrev sg234 : Sg := { bi := ⟨[(0, [[.S]]), (1, [[.S]]), (2, [[.S]]), (3, [[.S]])], []⟩, bo := ⟨[(0, [[.S]])], []⟩, np := 4, ext := false }
abbrev sg236 : Sg := { bi := ⟨[(0, [[.S]])], []⟩, bo := ⟨[(0, [[.S]])], []⟩, np := 1, ext := false }
abbrev sg237 : Sg := { bi := ⟨[(0, [[.S]])], []⟩, bo := ⟨[(0, [[.S]])], []⟩, np := 1, ext := false }
abbrev sg253 : Sg := { bi := ⟨[(0, [[.S]])], []⟩, bo := ⟨[(0, [[.S]])], []⟩, np := 1, ext := false }
abbrev sg254 : Sg := { bi := ⟨[(0, [[.S]])], []⟩, bo := ⟨[(0, [[.S]])], []⟩, np := 1, ext := false }
abbrev sg255 : Sg := { bi := ⟨[(0, [[.S]])], []⟩, bo := ⟨[(0, [[.S]])], []⟩, np := 1, ext := false }
abbrev sg256 : Sg := { bi := ⟨[(0, [[.S]])], []⟩, bo := ⟨[(0, [[.S]])], []⟩, np := 1, ext := false }
abbrev sg257 : Sg := { bi := ⟨[(0, [[.S]])], []⟩, bo := ⟨[(0, [[.S]])], []⟩, np := 1, ext := false }
abbrev sg258 : Sg := { bi := ⟨[(0, [[.S]])], []⟩, bo := ⟨[(0, [[.S]])], []⟩, np := 1, ext := false }
abbrev sg260 : Sg := { bi := ⟨[(0, [[.S]])], []⟩, bo := ⟨[(0, [[.S]])], []⟩, np := 1, ext := false }
abbrev sg261 : Sg := { bi := ⟨[(0, [[.S]])], []⟩, bo := ⟨[(0, [[.S]])], []⟩, np := 1, ext := false }
def Sgs : FuncId → List Sg
  | 8 => [sg8]
  | 31 => [sg31]
  | 32 => [sg32]
  | 34 => [sg34]
  | 35 => [sg35]
  | 37 => [sg37]
  | 38 => [sg38]
  | 39 => [sg39]
  | 41 => [sg41]
  | 44 => [sg44]
  | 49 => [sg49]
  | 50 => [sg50]
  | 51 => [sg51]
  | 52 => [sg52]
  | 53 => [sg53]
  | 54 => [sg54]
  | 55 => [sg55]
  | 61 => [sg61]
  | 69 => [sg69]
  | 72 => [sg72]
  | 75 => [sg75]
  | 77 => [sg77]
  | 88 => [sg88]
  | 96 => [sg96]
  | 104 => [sg104]
  | 105 => [sg105]
  | 107 => [sg107]
  | 108 => [sg108]
  | 109 => [sg109]
  | 110 => [sg110]
  | 111 => [sg111]
  | 112 => [sg112]
  | 114 => [sg114]
  | 115 => [sg115]
  | 116 => [sg116]
  | 117 => [sg117]
  | 123 => [sg123]
  | 124 => [sg124]
  | 125 => [sg125]
  | 132 => [sg132]
  | 133 => [sg133]
  | 156 => [sg156]
  | 181 => [sg181]
  | 182 => [sg182]
  | 183 => [sg183]
  | 184 => [sg184]
  | 185 => [sg185]
  | 186 => [sg186]
  | 187 => [sg187]
  | 188 => [sg188]
  | 192 => [sg192]
  | 193 => [sg193]
  | 194 => [sg194]
  | 196 => [sg196]
  | 203 => [sg203]
  | 223 => [sg223]
  | 224 => [sg224]
  | 227 => [sg227]
  | 228 => [sg228]
  | 232 => [sg232]
  | 233 => [sg233]
  | 234 => [sg234]
  | 236 => [sg236]
  | 237 => [sg237]
  | 253 => [sg253]
  | 254 => [sg254]
  | 255 => [sg255]
  | 256 => [sg256]
  | 257 => [sg257]
  | 258 => [sg258]
  | 260 => [sg260]
  | 261 => [sg261]
  | _ => []
end Go.Own
