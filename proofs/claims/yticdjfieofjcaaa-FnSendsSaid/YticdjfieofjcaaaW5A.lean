/- What is told of the functions: shapes and kinds. No conditions. -/
import Derived.Test.YticdjfieofjcaaaProg
import Derived.KernelRfl
import Derived.Test.YticdjfieofjcaaaOwn2
set_option linter.unusedVariables false
set_option linter.unusedSimpArgs false
set_option linter.unnecessarySimpa false
namespace Go.Own
open Go Go.Proofs
def τ : TypeId → Option TI
  | 3 => some { size := 1, bytes := 8, zero := [.int .i64 0], agg := false, kind := .int .i64 }
  | 4 => some { size := 1, bytes := 1, zero := [.bool false], agg := false, kind := .bool }
  | 5 => some { size := 1, bytes := 1, zero := [.int .u8 0], agg := false, kind := .int .u8 }
  | 9 => some { size := 1, bytes := 16, zero := [.str []], agg := false, kind := .str }
  | 22 => some { size := 1, bytes := 24, zero := [.sl []], agg := false, kind := .sl 3 }
  | 27 => some { size := 1, bytes := 24, zero := [.sl []], agg := false, kind := .sl 5 }
  | 31 => some { size := 1, bytes := 24, zero := [.sl []], agg := false, kind := .sl 33 }
  | 33 => some { size := 4, bytes := 56, zero := [.int .i64 0, .int .i64 0, .str [], .sl []], agg := true, kind := .struct [(0, 1, false), (1, 1, false), (2, 1, false), (3, 1, false)] }
  | 35 => some { size := 1, bytes := 24, zero := [.sl []], agg := false, kind := .sl 40 }
  | 40 => some { size := 8, bytes := 112, zero := [.int .i64 0, .int .i64 0, .str [], .sl [], .int .i64 0, .int .i64 0, .str [], .sl []], agg := true, kind := .struct [(0, 4, true), (4, 4, true)] }
  | 134 => some { size := 1, bytes := 24, zero := [.sl []], agg := false, kind := .sl 9 }
  | 140 => some { size := 3, bytes := 40, zero := [.sl [], .int .i64 0, .int .i64 0], agg := true, kind := .struct [(0, 1, false), (1, 1, false), (2, 1, false)] }
  | _ => none
set_option maxRecDepth 100000 in
theorem tables : Tables Try.prog τ := by
  intro t i h
  unfold τ at h
  split at h <;> (try cases h)
  · exact ⟨_, _, _, rfl, rfl, rfl, rfl, rfl, rfl, rfl, by decide, rfl, rfl⟩
  · exact ⟨_, _, _, rfl, rfl, rfl, rfl, rfl, rfl, rfl, by decide, rfl, rfl⟩
  · exact ⟨_, _, _, rfl, rfl, rfl, rfl, rfl, rfl, rfl, by decide, rfl, rfl⟩
  · exact ⟨_, _, _, rfl, rfl, rfl, rfl, rfl, rfl, rfl, by decide, rfl, rfl⟩
  · exact ⟨_, _, _, rfl, rfl, rfl, rfl, rfl, rfl, rfl, by decide, rfl, rfl⟩
  · exact ⟨_, _, _, rfl, rfl, rfl, rfl, rfl, rfl, rfl, by decide, rfl, rfl⟩
  · exact ⟨_, _, _, rfl, rfl, rfl, rfl, rfl, rfl, rfl, by decide, rfl, rfl⟩
  · refine ⟨_, _, _, rfl, rfl, rfl, rfl, rfl, rfl, rfl, by decide, rfl, _, rfl, rfl, fun j f hf => ?_⟩
    match j with
    | 0 => simp at hf; subst hf; exact ⟨_, _, rfl, rfl, rfl, rfl, by decide, rfl, rfl⟩
    | 1 => simp at hf; subst hf; exact ⟨_, _, rfl, rfl, rfl, rfl, by decide, rfl, rfl⟩
    | 2 => simp at hf; subst hf; exact ⟨_, _, rfl, rfl, rfl, rfl, by decide, rfl, rfl⟩
    | 3 => simp at hf; subst hf; exact ⟨_, _, rfl, rfl, rfl, rfl, by decide, rfl, rfl⟩
    | j + 4 => simp at hf
  · exact ⟨_, _, _, rfl, rfl, rfl, rfl, rfl, rfl, rfl, by decide, rfl, rfl⟩
  · refine ⟨_, _, _, rfl, rfl, rfl, rfl, rfl, rfl, rfl, by decide, rfl, _, rfl, rfl, fun j f hf => ?_⟩
    match j with
    | 0 => simp at hf; subst hf; exact ⟨_, _, rfl, rfl, rfl, rfl, by decide, rfl, rfl⟩
    | 1 => simp at hf; subst hf; exact ⟨_, _, rfl, rfl, rfl, rfl, by decide, rfl, rfl⟩
    | j + 2 => simp at hf
  · exact ⟨_, _, _, rfl, rfl, rfl, rfl, rfl, rfl, rfl, by decide, rfl, rfl⟩
  · refine ⟨_, _, _, rfl, rfl, rfl, rfl, rfl, rfl, rfl, by decide, rfl, _, rfl, rfl, fun j f hf => ?_⟩
    match j with
    | 0 => simp at hf; subst hf; exact ⟨_, _, rfl, rfl, rfl, rfl, by decide, rfl, rfl⟩
    | 1 => simp at hf; subst hf; exact ⟨_, _, rfl, rfl, rfl, rfl, by decide, rfl, rfl⟩
    | 2 => simp at hf; subst hf; exact ⟨_, _, rfl, rfl, rfl, rfl, by decide, rfl, rfl⟩
    | j + 3 => simp at hf
abbrev vi : V := .one (.c (.int .i64 0))
abbrev vy : V := .one (.c (.int .u8 0))
abbrev vb : V := .one (.c (.bool false))
abbrev vl : V := .one (.c (.sl []))
abbrev vs : V := .one (.c (.str []))
abbrev vj : V := .one .junk

def F5 : FA := { n := 74, sh := [vl, vj, vb, .one (.ptr 3 0), vl, vb, vl, vb, vi, vl, vb, vl, .one (.ag [.int .i64 0, .int .i64 0, .str [], .sl []]), .tup [.c (.sl []), .c (.bool false)], .one (.ag [.int .i64 0, .int .i64 0, .str [], .sl []]), .tup [.c (.sl []), .c (.bool false)], vl, vb, .tup [.c (.sl []), .c (.bool false)], .one (.ag [.int .i64 0, .int .i64 0, .str [], .sl []]), .tup [.c (.sl []), .c (.bool false)], vl, vb, vb, vb, vb, vb, vb, vb, vb, vb, vb, vb, vb, vl, vi, vb, vb, vi, vl, vi, vb, vi, vi, .one (.ptr 3 3), vl, vi, .one (.cp [.int .i64 0, .int .i64 0, .str [], .sl []]), .one (.ag [.int .i64 0, .int .i64 0, .str [], .sl []]), vl, vi, .one (.cp [.int .i64 0, .int .i64 0, .str [], .sl [], .int .i64 0, .int .i64 0, .str [], .sl []]), .one (.cp [.int .i64 0, .int .i64 0, .str [], .sl [], .int .i64 0, .int .i64 0, .str [], .sl []]), .one (.ag [.int .i64 0, .int .i64 0, .str [], .sl []]), vl, vi, .one (.cp [.int .i64 0, .int .i64 0, .str [], .sl [], .int .i64 0, .int .i64 0, .str [], .sl []]), .one (.cp [.int .i64 0, .int .i64 0, .str [], .sl []]), .one (.ag [.int .i64 0, .int .i64 0, .str [], .sl []]), vl, .one (.ag [.int .i64 0, .int .i64 0, .str [], .sl []]), vb, vb, vl, vi, .one (.ptr 3 3), vl, vi, vb, vb, .one (.ptr 3 0), vi, vb, vb], obs := [(3, [.int .i64 0, .int .i64 0, .str [], .sl []])], tk := [11, 13, 18, 26, 30, 31, 33, 34, 42, 63, 66, 69, 71], fz := [4], keep := [(0, [0]), (1, [0, 10]), (2, [2]), (3, [3]), (4, [3, 4, 5]), (5, [3, 4, 5, 7]), (6, [3, 4, 5, 7, 29]), (7, [2]), (8, [3, 4, 8]), (9, [3, 4, 8, 41]), (10, [3, 4, 8]), (11, [3, 4, 8, 62]), (12, [2]), (13, [2])] }
def F18 : FA := { n := 6, sh := [vl, vj, vb, vl, vi, vb], obs := [], tk := [3], keep := [(0, [0]), (1, [2])] }
def F20 : FA := { n := 44, sh := [vl, vj, .one (.ptr 2 0), .one (.ptr 8 0), .one (.ptr 4 0), vi, .one (.ptr 6 0), vl, .one (.ptr 8 0), .one (.ag [.int .i64 0, .int .i64 0, .str [], .sl []]), .one (.ptr 8 0), vi, vi, vb, vi, vi, .one (.ag [.int .i64 0, .int .i64 0, .str [], .sl []]), .one (.ptr 8 0), vb, .one (.ptr 8 0), .one (.ag [.int .i64 0, .int .i64 0, .str [], .sl []]), .one (.ptr 4 3), vl, .one (.ag [.int .i64 0, .int .i64 0, .str [], .sl []]), .one (.ptr 8 0), .one (.ag [.int .i64 0, .int .i64 0, .str [], .sl []]), vl, .one (.ag [.int .i64 0, .int .i64 0, .str [], .sl []]), vl, vl, .one (.ptr 4 3), .one (.ptr 8 0), vb, .one (.ptr 4 3), vl, .one (.ptr 8 0), .one (.ag [.int .i64 0, .int .i64 0, .str [], .sl []]), vl, vl, .one (.ptr 4 3), .one (.ptr 8 0), vb, .one (.ptr 4 0), .one (.ag [.int .i64 0, .int .i64 0, .str [], .sl []])], obs := [(2, [.int .i64 0, .int .i64 0, .str [], .sl []]), (4, [.int .i64 0, .int .i64 0, .str [], .sl []]), (6, [.int .i64 0, .int .i64 0, .str [], .sl []]), (8, [.sl [], .int .i64 0, .int .i64 0])], tk := [7, 14, 22, 23, 34, 40, 43], dp := [26, 28, 29, 37, 38], nw := [8], keep := [(0, [0, 2]), (1, [2, 3]), (2, [2, 3, 4]), (3, [2, 3, 4, 5]), (4, [2, 3, 4, 5, 13]), (5, [2, 3, 4, 5]), (6, [2, 3, 4, 5, 6]), (7, [2, 3, 4, 5, 6, 18]), (8, [2, 3, 4, 5, 6]), (9, [2, 3, 4, 5]), (10, [2, 3, 4, 32]), (11, [2, 3, 4]), (12, [2, 4, 41]), (13, [2, 4]), (14, [2])] }
def F21 : FA := { n := 50, sh := [.one (.ag [.int .i64 0, .int .i64 0, .str [], .sl []]), .one (.ptr 1 0), vl, vb, vl, vj, .one (.ptr 6 0), .one (.ptr 1 0), vi, vb, .one (.ptr 1 3), vl, vi, vi, vb, .one (.cp [.int .i64 0, .int .i64 0, .str [], .sl []]), .one (.ag [.int .i64 0, .int .i64 0, .str [], .sl []]), .one (.ptr 6 0), vi, vb, vb, .one (.ptr 6 3), vl, vi, vb, vb, vb, .one (.ptr 6 3), vl, .one (.cp [.int .i64 0, .int .i64 0, .str [], .sl []]), .one (.ag [.int .i64 0, .int .i64 0, .str [], .sl []]), vb, vb, vb, vl, .one (.ptr 6 3), vl, .one (.cp [.int .i64 0, .int .i64 0, .str [], .sl []]), .one (.ag [.int .i64 0, .int .i64 0, .str [], .sl []]), .one (.ag [.int .i64 0, .int .i64 0, .str [], .sl []]), .one (.ptr 6 3), vl, .one (.cp [.int .i64 0, .int .i64 0, .str [], .sl []]), .one (.ag [.int .i64 0, .int .i64 0, .str [], .sl []]), .one (.ag [.int .i64 0, .int .i64 0, .str [], .sl []]), .one (.ag [.int .i64 0, .int .i64 0, .str [], .sl [], .int .i64 0, .int .i64 0, .str [], .sl []]), vl, vl, vi, vl], obs := [(1, [.int .i64 0, .int .i64 0, .str [], .sl []]), (6, [.int .i64 0, .int .i64 0, .str [], .sl []])], tk := [8, 11, 13, 18, 20, 26, 34, 41, 49], dp := [46, 47], keep := [(0, [1]), (1, [1, 9]), (2, [2, 3]), (3, [1, 4]), (4, [4, 11, 12, 13]), (5, [4, 11, 12, 13, 14]), (6, [4, 6, 11, 12, 13]), (7, [4, 6, 11, 12, 13, 33]), (8, [2, 3]), (9, [4, 11, 12, 13]), (10, [4, 11, 12, 13]), (11, [2, 3])] }
def F22 : FA := { n := 65, sh := [.one (.ag [.int .i64 0, .int .i64 0, .str [], .sl []]), .one (.ptr 1 0), vl, vb, vl, vi, .one (.ptr 6 0), vl, .one (.ptr 1 0), vi, vb, vl, vi, .one (.ptr 1 3), vl, vi, vb, vi, vi, .one (.ptr 1 3), vl, vi, .one (.cp [.int .i64 0, .int .i64 0, .str [], .sl []]), .one (.ag [.int .i64 0, .int .i64 0, .str [], .sl []]), .one (.ptr 6 0), vi, vb, vb, .one (.ptr 6 3), vl, vi, vb, vb, vb, .one (.ptr 6 3), vl, .one (.cp [.int .i64 0, .int .i64 0, .str [], .sl []]), .one (.cp [.int .i64 0, .int .i64 0, .str [], .sl []]), vi, vb, vb, .one (.ptr 6 3), vl, .one (.cp [.int .i64 0, .int .i64 0, .str [], .sl []]), .one (.cp [.int .i64 0, .int .i64 0, .str [], .sl []]), vi, vb, vb, vb, vl, vl, .one (.ptr 6 3), vl, .one (.cp [.int .i64 0, .int .i64 0, .str [], .sl []]), .one (.ag [.int .i64 0, .int .i64 0, .str [], .sl []]), .one (.ag [.int .i64 0, .int .i64 0, .str [], .sl []]), .one (.ptr 6 3), vl, .one (.cp [.int .i64 0, .int .i64 0, .str [], .sl []]), .one (.ag [.int .i64 0, .int .i64 0, .str [], .sl []]), .one (.ag [.int .i64 0, .int .i64 0, .str [], .sl []]), .one (.ag [.int .i64 0, .int .i64 0, .str [], .sl [], .int .i64 0, .int .i64 0, .str [], .sl []]), vl, vl, vl], obs := [(1, [.int .i64 0, .int .i64 0, .str [], .sl []]), (6, [.int .i64 0, .int .i64 0, .str [], .sl []])], tk := [9, 11, 17, 25, 27, 33, 40, 50, 57, 64], dp := [7, 49, 62, 63], keep := [(0, [1]), (1, [1, 4]), (2, [1, 4, 10]), (3, [2, 3]), (4, [1, 4, 5]), (5, [1, 4, 5, 16]), (6, [1, 4, 5]), (7, [1, 4, 5, 6]), (8, [1, 4, 5, 6, 48]), (9, [2, 3]), (10, [1, 4, 5]), (11, [2, 3])] }
def F23 : FA := { n := 31, sh := [.one (.ag [.int .i64 0, .int .i64 0, .str [], .sl []]), .one (.ag [.int .i64 0, .int .i64 0, .str [], .sl []]), .one (.ptr 2 0), .one (.ptr 3 0), vb, .one (.ptr 2 0), vi, .one (.ptr 3 0), vi, vb, vb, .one (.ptr 2 1), vi, .one (.ptr 3 1), vi, vb, vb, vb, .one (.ptr 2 2), vs, .one (.ptr 3 2), vs, vb, vb, vb, .one (.ptr 2 3), vl, .one (.ptr 3 3), vl, vb, vb], obs := [(2, [.int .i64 0, .int .i64 0, .str [], .sl []]), (3, [.int .i64 0, .int .i64 0, .str [], .sl []])], tk := [6, 8, 10, 12, 14, 17, 19, 21, 24, 26, 28], keep := [(0, [2, 3]), (1, [4])] }
def F58 : FA := { n := 32, sh := [vl, vj, .one (.ptr 31 0), vi, vi, vl, vi, vi, vi, vl, vi, vb, vb, vi, vb, vb, vi, vi, vi, vi, vl, vi, .one (.cp [.int .u8 0]), vy, vi, vi, vi, vi, vl, vi, .one (.ag [.sl [], .int .i64 0, .int .i64 0]), .one (.ptr 31 0)], obs := [(31, [.sl [], .int .i64 0, .int .i64 0])], tk := [12, 16, 18, 28, 29], keep := [(0, [0]), (1, [0, 3]), (2, [0, 3, 4]), (3, [0, 3, 4, 15]), (4, [0, 3, 4]), (5, [0, 3, 4]), (6, [2])], n0 := some 31 }
def F59 : FA := { n := 31, sh := [.one (.ptr 1000000 0), vi, vj, vj, vi, vi, vi, vi, vi, vb, vi, vb, .one (.ptr 1000000 0), vi, vi, vi, .one (.ptr 1000000 0), vi, .one (.ptr 1000000 0), vi, .one (.ptr 1000000 0), vi, vi, vi, vi, vi, vi, vi, vi, vi, vi], obs := [(1000000, [.sl [], .int .i64 0, .int .i64 0])], tk := [12, 14, 20, 22, 24, 27, 29], keep := [(0, [0, 1]), (1, [0, 1, 9]), (2, [4]), (3, [0, 1, 11]), (4, [4]), (5, [0, 1, 5]), (6, [0, 1, 5, 6]), (7, [1, 5, 6, 7]), (8, [4])] }
def F60 : FA := { n := 12, sh := [.one (.ptr 1000000 0), vl, vj, vj, vi, vl, .one (.ptr 1000000 0), vl, vi, vi, .one (.cp [.int .i64 0]), vi], obs := [(1000000, [.sl [], .int .i64 0, .int .i64 0])], tk := [6, 7], keep := [(0, [0, 1]), (1, [4])] }
def F61 : FA := { n := 5, sh := [vs, vj, .one (.ptr 2 0), vs, .one (.ag [.int .i64 0, .int .i64 0, .str [], .sl []])], obs := [(2, [.int .i64 0, .int .i64 0, .str [], .sl []])], tk := [3], keep := [(0, [0, 2]), (1, [2])] }
def F62 : FA := { n := 9, sh := [.one (.ptr 1000000 0), vi, vj, vj, vb, .one (.ptr 1000000 0), vi, vi, vb], obs := [(1000000, [.sl [], .int .i64 0, .int .i64 0])], tk := [5, 6], keep := [(0, [0, 1]), (1, [4])] }
def F63 : FA := { n := 55, sh := [.one (.ptr 1000000 0), vi, vj, vj, .one (.ptr 4 0), .one (.ptr 5 0), vi, .one (.ptr 1000000 0), vi, vb, vb, vb, vb, .one (.ptr 1000000 0), .one (.ptr 1000000 0), vi, vl, vi, .one (.ag [.int .i64 0, .int .i64 0, .str [], .sl []]), vb, vb, vb, .one (.ptr 1000000 0), vl, vs, .one (.ag [.int .i64 0, .int .i64 0, .str [], .sl []]), vb, vb, .one (.ptr 1000000 0), vi, .one (.ag [.int .i64 0, .int .i64 0, .str [], .sl []]), .one (.ptr 1000000 0), vl, vi, .one (.ag [.int .i64 0, .int .i64 0, .str [], .sl []]), .one (.ptr 1000000 0), vi, vi, vb, vb, vi, vb, vb, vi, vi, .one (.ptr 5 3), vl, .one (.ptr 1000000 0), vi, vi, .one (.ag [.int .i64 0, .int .i64 0, .str [], .sl []]), vl, vl, .one (.ptr 5 3), .one (.ag [.int .i64 0, .int .i64 0, .str [], .sl []])], obs := [(4, [.int .i64 0, .int .i64 0, .str [], .sl []]), (5, [.int .i64 0, .int .i64 0, .str [], .sl []]), (1000000, [.sl [], .int .i64 0, .int .i64 0])], tk := [14, 22, 28, 39, 43, 46, 54], dp := [16, 23, 32, 51, 52], fz := [16, 23, 32], keep := [(0, [0, 1, 4]), (1, [0, 1, 4, 8]), (2, [0, 1, 4, 8, 9]), (3, [0, 1, 4, 8, 9]), (4, [0, 1, 4, 8, 9]), (5, [4]), (6, [0, 1, 4, 8, 19]), (7, [0, 1, 4, 8, 19]), (8, [4]), (9, [0, 1, 4, 26]), (10, [4]), (11, [0, 1, 4, 5]), (12, [0, 1, 4, 5, 6]), (13, [0, 1, 4, 5, 6, 42]), (14, [0, 1, 4, 5, 6]), (15, [0, 1, 4, 5, 6]), (16, [4])] }
def F64 : FA := { n := 11, sh := [.one (.ag [.int .i64 0, .int .i64 0, .str [], .sl []]), .one (.ptr 1 0), vb, .one (.ptr 1 0), vi, vb, vb, .one (.ptr 1 0), vi, vb, vb], obs := [(1, [.int .i64 0, .int .i64 0, .str [], .sl []])], tk := [6, 8], keep := [(0, [1]), (1, [2])] }
def F65 : FA := { n := 8, sh := [.one (.ag [.int .i64 0, .int .i64 0, .str [], .sl []]), .one (.ptr 1 0), .one (.ptr 2 0), .one (.ptr 1 3), vl, vl, .one (.ptr 1 3), .one (.ag [.int .i64 0, .int .i64 0, .str [], .sl []])], obs := [(1, [.int .i64 0, .int .i64 0, .str [], .sl []]), (2, [.int .i64 0, .int .i64 0, .str [], .sl []])], tk := [4, 7], keep := [(0, [1, 2]), (1, [1, 2]), (2, [2])] }
def F66 : FA := { n := 27, sh := [.one (.ag [.int .i64 0, .int .i64 0, .str [], .sl []]), .one (.ptr 1 0), .one (.ptr 2 0), .one (.ptr 3 0), vi, .one (.ag [.int .i64 0, .int .i64 0, .str [], .sl []]), vl, .one (.ptr 3 3), vi, .one (.ptr 1 3), vl, vi, vb, vi, vi, .one (.ptr 3 3), vl, .one (.ptr 1 3), vl, vi, .one (.cp [.int .i64 0, .int .i64 0, .str [], .sl []]), .one (.ag [.int .i64 0, .int .i64 0, .str [], .sl []]), .one (.ag [.int .i64 0, .int .i64 0, .str [], .sl []]), vl, vl, .one (.ptr 3 3), .one (.ag [.int .i64 0, .int .i64 0, .str [], .sl []])], obs := [(1, [.int .i64 0, .int .i64 0, .str [], .sl []]), (2, [.int .i64 0, .int .i64 0, .str [], .sl []]), (3, [.int .i64 0, .int .i64 0, .str [], .sl []])], tk := [13, 16, 26], dp := [6, 23, 24], keep := [(0, [1, 2]), (1, [1, 2, 3]), (2, [1, 2, 3]), (3, [1, 2, 3, 4]), (4, [1, 2, 3, 4, 12]), (5, [1, 2, 3, 4]), (6, [1, 2, 3, 4]), (7, [2])] }
def F67 : FA := { n := 32, sh := [vl, vl, .one (.fn 23 []), vj, vj, vj, vb, vi, .one (.ptr 8 0), .one (.ptr 9 0), vl, vi, vl, vi, vb, vl, vi, vi, vb, vi, .one (.cp [.int .i64 0, .int .i64 0, .str [], .sl []]), .one (.ag [.int .i64 0, .int .i64 0, .str [], .sl []]), vl, vi, .one (.cp [.int .i64 0, .int .i64 0, .str [], .sl []]), .one (.ag [.int .i64 0, .int .i64 0, .str [], .sl []]), .one (.fn 23 []), .one (.ag [.int .i64 0, .int .i64 0, .str [], .sl []]), .one (.ag [.int .i64 0, .int .i64 0, .str [], .sl []]), vb, vb, vi], obs := [(8, [.int .i64 0, .int .i64 0, .str [], .sl []]), (9, [.int .i64 0, .int .i64 0, .str [], .sl []])], tk := [15, 17, 23, 27, 28], keep := [(0, [0, 1, 2]), (1, [0, 1, 2, 14]), (2, [6]), (3, [1, 2, 15, 16, 17]), (4, [1, 2, 15, 16, 17, 18]), (5, [1, 2, 7, 8, 15, 16, 17]), (6, [1, 2, 8, 9, 15, 16, 17]), (7, [1, 2, 15, 16, 17, 30]), (8, [6]), (9, [1, 2, 15, 16, 17]), (10, [6])] }
def F104 : FA := { n := 58, sh := [.one (.ptr 1000000 0), vj, vi, vi, .one (.ptr 1000000 0), .one (.ptr 1000000 0), .one (.ptr 1000000 0), .one (.ptr 1000000 2), vi, vi, vi, .one (.ptr 1000000 0), .one (.ptr 1000000 2), .one (.ptr 1000000 0), .one (.ptr 1000000 0), .one (.ptr 1000000 2), vi, vi, .one (.ptr 1000000 0), .one (.ptr 1000000 0), .one (.ptr 1000000 2), vi, vi, vi, vi, .one (.ptr 1000000 0), .one (.ptr 1000000 0), .one (.ptr 1000000 1), vi, .one (.ptr 1000000 0), .one (.ptr 1000000 0), .one (.ptr 1000000 0), vl, vi, vb, vi, .one (.ptr 1000000 0), .one (.ptr 1000000 0), .one (.ptr 1000000 0), vl, .one (.ptr 1000000 0), .one (.ptr 1000000 0), .one (.ptr 1000000 1), vi, .one (.cp [.int .u8 0]), vy, vi, vi, vi, .one (.ptr 1000000 0), .one (.ptr 1000000 0), .one (.ptr 1000000 0), .one (.ptr 1000000 1), vi, vi, .one (.ptr 1000000 0), .one (.ptr 1000000 1), vi], obs := [(1000000, [.sl [], .int .i64 0, .int .i64 0])], tk := [8, 35, 50, 53, 57], keep := [(0, [0]), (1, [0]), (2, [0, 3]), (3, [0, 3, 34]), (4, [0, 3]), (5, [3]), (6, [2])] }
def F105 : FA := { n := 12, sh := [.one (.ptr 1000000 0), vl, vj, vj, vs, vl, .one (.ptr 1000000 0), vl, vi, vi, .one (.cp [.str []]), vs], obs := [(1000000, [.sl [], .int .i64 0, .int .i64 0])], tk := [6, 7], keep := [(0, [0, 1]), (1, [4])] }
def F106 : FA := { n := 19, sh := [vl, vj, vl, vl, vj, .one (.ptr 5 0), vl, vi, vi, vb, .one (.cp [.int .i64 0, .int .i64 0, .str [], .sl []]), .one (.ag [.int .i64 0, .int .i64 0, .str [], .sl []]), vl, .one (.ag [.int .i64 0, .int .i64 0, .str [], .sl []]), .one (.ag [.int .i64 0, .int .i64 0, .str [], .sl []]), vl, vl, vi, vl], obs := [(5, [.int .i64 0, .int .i64 0, .str [], .sl []])], tk := [6, 8, 12, 13, 18], dp := [15, 16], keep := [(0, [0]), (1, [0, 3]), (2, [3, 6, 7, 8]), (3, [3, 6, 7, 8, 9]), (4, [3, 5, 6, 7, 8]), (5, [3, 6, 7, 8]), (6, [3, 6, 7, 8]), (7, [2])] }
def An : FuncId → FA
  | 5 => F5
  | 18 => F18
  | 20 => F20
  | 21 => F21
  | 22 => F22
  | 23 => F23
  | 58 => F58
  | 59 => F59
  | 60 => F60
  | 61 => F61
  | 62 => F62
  | 63 => F63
  | 64 => F64
  | 65 => F65
  | 66 => F66
  | 67 => F67
  | 104 => F104
  | 105 => F105
  | 106 => F106
  | _ => { n := 0, sh := [], obs := [] }
def Sgs : FuncId → List Sg
  | 5 => [{ bi := ⟨[(0, [[.F]])], []⟩, bo := ⟨[(0, [[.S]])], []⟩, np := 1, ext := false }]
  | 18 => [{ bi := ⟨[(0, [[.F]])], []⟩, bo := ⟨[(0, [[.S]])], []⟩, np := 1, ext := false }]
  | 20 => [{ bi := ⟨[(0, [[.F]])], []⟩, bo := ⟨[(0, [[.S, .S, .S, .U 4]])], []⟩, np := 1, ext := false }]
  | 21 => [{ bi := ⟨[(0, [[.S, .S, .S, .F]])], []⟩, bo := ⟨[(0, [[.U 8], [.S]])], []⟩, np := 1, ext := false }]
  | 22 => [{ bi := ⟨[(0, [[.S, .S, .S, .F]])], []⟩, bo := ⟨[(0, [[.U 8], [.S]])], []⟩, np := 1, ext := false }]
  | 23 => [{ bi := ⟨[(0, [[.S, .S, .S, .F]]), (1, [[.S, .S, .S, .F]])], []⟩, bo := ⟨[(0, [[.S]])], []⟩, np := 2, ext := false }]
  | 58 => [{ bi := ⟨[(0, [[.F]])], []⟩, bo := ⟨[(0, [[.S]])], [(0, [.F, .S, .S])]⟩, np := 1 }]
  | 59 => [{ bi := ⟨[(0, [[.S]]), (1, [[.S]])], [(1000000, [.F, .S, .S])]⟩, bo := ⟨[(0, [[.S]])], [(1000000, [.F, .S, .S])]⟩, np := 2, no := 1 }]
  | 60 => [{ bi := ⟨[(0, [[.S]]), (1, [[.F]])], [(1000000, [.F, .S, .S])]⟩, bo := ⟨[(0, [[.S]])], [(1000000, [.F, .S, .S])]⟩, np := 2, no := 1 }]
  | 61 => [{ bi := ⟨[(0, [[.S]])], []⟩, bo := ⟨[(0, [[.S, .S, .S, .N]])], []⟩, np := 1, ext := false }]
  | 62 => [{ bi := ⟨[(0, [[.S]]), (1, [[.S]])], [(1000000, [.F, .S, .S])]⟩, bo := ⟨[(0, [[.S]])], [(1000000, [.F, .S, .S])]⟩, np := 2, no := 1 }]
  | 63 => [{ bi := ⟨[(0, [[.S]]), (1, [[.S]])], [(1000000, [.F, .S, .S])]⟩, bo := ⟨[(0, [[.S, .S, .S, .U 4]])], [(1000000, [.F, .S, .S])]⟩, np := 2, no := 1 }]
  | 64 => [{ bi := ⟨[(0, [[.S, .S, .S, .F]])], []⟩, bo := ⟨[(0, [[.S]])], []⟩, np := 1, ext := false }]
  | 65 => [{ bi := ⟨[(0, [[.S, .S, .S, .F]])], []⟩, bo := ⟨[(0, [[.S, .S, .S, .U 4]])], []⟩, np := 1, ext := false }]
  | 66 => [{ bi := ⟨[(0, [[.S, .S, .S, .F]])], []⟩, bo := ⟨[(0, [[.S, .S, .S, .U 4]])], []⟩, np := 1, ext := false }]
  | 67 => [{ bi := ⟨[(0, [[.F]]), (1, [[.F]]), (2, [[.S]])], []⟩, bo := ⟨[(0, [[.S]])], []⟩, np := 3, ext := false }]
  | 104 => [{ bi := ⟨[(0, [[.S]])], [(1000000, [.F, .S, .S])]⟩, bo := ⟨[(0, [[.S]])], [(1000000, [.F, .S, .S])]⟩, np := 1, no := 1 }]
  | 105 => [{ bi := ⟨[(0, [[.S]]), (1, [[.F]])], [(1000000, [.F, .S, .S])]⟩, bo := ⟨[(0, [[.S]])], [(1000000, [.F, .S, .S])]⟩, np := 2, no := 1 }]
  | 106 => [{ bi := ⟨[(0, [[.F]])], []⟩, bo := ⟨[(0, [[.U 4]])], []⟩, np := 1, ext := false }]
  | _ => []
end Go.Own
