/- What is told of the functions: shapes and kinds. No conditions. -/
import Derived.Test.YtgeomhdbckjkcaaProg
import Derived.KernelRfl
import Derived.Test.YtgeomhdbckjkcaaOwn3
set_option linter.unusedVariables false
set_option linter.unusedSimpArgs false
set_option linter.unnecessarySimpa false
namespace Go.Own
open Go Go.Proofs
def τ : TypeId → Option TI
  | 3 => some { size := 1, bytes := 8, zero := [.int .i64 0], agg := false, kind := .int .i64 }
  | 4 => some { size := 1, bytes := 1, zero := [.bool false], agg := false, kind := .bool }
  | 5 => some { size := 1, bytes := 1, zero := [.int .u8 0], agg := false, kind := .int .u8 }
  | 9 => some { size := 1, bytes := 16, zero := [.str []], agg := false, kind := .str }
  | 44 => some { size := 1, bytes := 24, zero := [.sl []], agg := false, kind := .sl 219 }
  | 46 => some { size := 1, bytes := 24, zero := [.sl []], agg := true, kind := .struct [(0, 1, false)] }
  | 49 => some { size := 1, bytes := 24, zero := [.sl []], agg := false, kind := .sl 149 }
  | 51 => some { size := 1, bytes := 24, zero := [.sl []], agg := true, kind := .struct [(0, 1, false)] }
  | 55 => some { size := 1, bytes := 24, zero := [.sl []], agg := false, kind := .sl 58 }
  | 56 => some { size := 1, bytes := 24, zero := [.sl []], agg := false, kind := .sl 231 }
  | 58 => some { size := 5, bytes := 80, zero := [.int .i64 0, .int .i64 0, .str [], .sl [], .sl []], agg := true, kind := .struct [(0, 1, false), (1, 1, false), (2, 1, false), (3, 1, false), (4, 1, false)] }
  | 67 => some { size := 1, bytes := 24, zero := [.sl []], agg := false, kind := .sl 70 }
  | 68 => some { size := 1, bytes := 24, zero := [.sl []], agg := false, kind := .sl 223 }
  | 70 => some { size := 5, bytes := 80, zero := [.int .i64 0, .int .i64 0, .str [], .sl [], .sl []], agg := true, kind := .struct [(0, 1, false), (1, 1, false), (2, 1, false), (3, 1, false), (4, 1, false)] }
  | 98 => some { size := 1, bytes := 24, zero := [.sl []], agg := false, kind := .sl 9 }
  | 149 => some { size := 7, bytes := 120, zero := [.str [], .sl [], .int .i64 0, .int .i64 0, .str [], .sl [], .sl []], agg := true, kind := .struct [(0, 1, false), (1, 1, false), (2, 5, true)] }
  | 219 => some { size := 7, bytes := 120, zero := [.str [], .sl [], .int .i64 0, .int .i64 0, .str [], .sl [], .sl []], agg := true, kind := .struct [(0, 1, false), (1, 1, false), (2, 5, true)] }
  | 223 => some { size := 10, bytes := 160, zero := [.int .i64 0, .int .i64 0, .str [], .sl [], .sl [], .int .i64 0, .int .i64 0, .str [], .sl [], .sl []], agg := true, kind := .struct [(0, 5, true), (5, 5, true)] }
  | 231 => some { size := 10, bytes := 160, zero := [.int .i64 0, .int .i64 0, .str [], .sl [], .sl [], .int .i64 0, .int .i64 0, .str [], .sl [], .sl []], agg := true, kind := .struct [(0, 5, true), (5, 5, true)] }
  | 243 => some { size := 2, bytes := 32, zero := [.int .i64 0, .sl []], agg := true, kind := .struct [(0, 1, false), (1, 1, false)] }
  | _ => none
set_option maxRecDepth 100000 in
theorem tables : Tables Try.prog τ := by
  intro t i h
  unfold τ at h
  split at h <;> (try cases h)
  · exact ⟨_, _, _, rfl, rfl, rfl, rfl, rfl, rfl, rfl, by decide, rfl, rfl⟩
  · exact ⟨_, _, _, rfl, rfl, rfl, rfl, rfl, rfl, rfl, by decide, rfl, rfl⟩
  · exact ⟨_, _, _, rfl, rfl, rfl, rfl, rfl, rfl, rfl, by decide, rfl, rfl⟩
  · exact ⟨_, _, _, rfl, rfl, rfl, rfl, rfl, rfl, rfl, by decide, rfl, rfl⟩
  · exact ⟨_, _, _, rfl, rfl, rfl, rfl, rfl, rfl, rfl, by decide, rfl, rfl⟩
  · refine ⟨_, _, _, rfl, rfl, rfl, rfl, rfl, rfl, rfl, by decide, rfl, _, rfl, rfl, fun j f hf => ?_⟩
    match j with
    | 0 => simp at hf; subst hf; exact ⟨_, _, rfl, rfl, rfl, rfl, by decide, rfl, rfl⟩
    | j + 1 => simp at hf
  · exact ⟨_, _, _, rfl, rfl, rfl, rfl, rfl, rfl, rfl, by decide, rfl, rfl⟩
  · refine ⟨_, _, _, rfl, rfl, rfl, rfl, rfl, rfl, rfl, by decide, rfl, _, rfl, rfl, fun j f hf => ?_⟩
    match j with
    | 0 => simp at hf; subst hf; exact ⟨_, _, rfl, rfl, rfl, rfl, by decide, rfl, rfl⟩
    | j + 1 => simp at hf
  · exact ⟨_, _, _, rfl, rfl, rfl, rfl, rfl, rfl, rfl, by decide, rfl, rfl⟩
  · exact ⟨_, _, _, rfl, rfl, rfl, rfl, rfl, rfl, rfl, by decide, rfl, rfl⟩
  · refine ⟨_, _, _, rfl, rfl, rfl, rfl, rfl, rfl, rfl, by decide, rfl, _, rfl, rfl, fun j f hf => ?_⟩
    match j with
    | 0 => simp at hf; subst hf; exact ⟨_, _, rfl, rfl, rfl, rfl, by decide, rfl, rfl⟩
    | 1 => simp at hf; subst hf; exact ⟨_, _, rfl, rfl, rfl, rfl, by decide, rfl, rfl⟩
    | 2 => simp at hf; subst hf; exact ⟨_, _, rfl, rfl, rfl, rfl, by decide, rfl, rfl⟩
    | 3 => simp at hf; subst hf; exact ⟨_, _, rfl, rfl, rfl, rfl, by decide, rfl, rfl⟩
    | 4 => simp at hf; subst hf; exact ⟨_, _, rfl, rfl, rfl, rfl, by decide, rfl, rfl⟩
    | j + 5 => simp at hf
  · exact ⟨_, _, _, rfl, rfl, rfl, rfl, rfl, rfl, rfl, by decide, rfl, rfl⟩
  · exact ⟨_, _, _, rfl, rfl, rfl, rfl, rfl, rfl, rfl, by decide, rfl, rfl⟩
  · refine ⟨_, _, _, rfl, rfl, rfl, rfl, rfl, rfl, rfl, by decide, rfl, _, rfl, rfl, fun j f hf => ?_⟩
    match j with
    | 0 => simp at hf; subst hf; exact ⟨_, _, rfl, rfl, rfl, rfl, by decide, rfl, rfl⟩
    | 1 => simp at hf; subst hf; exact ⟨_, _, rfl, rfl, rfl, rfl, by decide, rfl, rfl⟩
    | 2 => simp at hf; subst hf; exact ⟨_, _, rfl, rfl, rfl, rfl, by decide, rfl, rfl⟩
    | 3 => simp at hf; subst hf; exact ⟨_, _, rfl, rfl, rfl, rfl, by decide, rfl, rfl⟩
    | 4 => simp at hf; subst hf; exact ⟨_, _, rfl, rfl, rfl, rfl, by decide, rfl, rfl⟩
    | j + 5 => simp at hf
  · exact ⟨_, _, _, rfl, rfl, rfl, rfl, rfl, rfl, rfl, by decide, rfl, rfl⟩
  · refine ⟨_, _, _, rfl, rfl, rfl, rfl, rfl, rfl, rfl, by decide, rfl, _, rfl, rfl, fun j f hf => ?_⟩
    match j with
    | 0 => simp at hf; subst hf; exact ⟨_, _, rfl, rfl, rfl, rfl, by decide, rfl, rfl⟩
    | 1 => simp at hf; subst hf; exact ⟨_, _, rfl, rfl, rfl, rfl, by decide, rfl, rfl⟩
    | 2 => simp at hf; subst hf; exact ⟨_, _, rfl, rfl, rfl, rfl, by decide, rfl, rfl⟩
    | j + 3 => simp at hf
  · refine ⟨_, _, _, rfl, rfl, rfl, rfl, rfl, rfl, rfl, by decide, rfl, _, rfl, rfl, fun j f hf => ?_⟩
    match j with
    | 0 => simp at hf; subst hf; exact ⟨_, _, rfl, rfl, rfl, rfl, by decide, rfl, rfl⟩
    | 1 => simp at hf; subst hf; exact ⟨_, _, rfl, rfl, rfl, rfl, by decide, rfl, rfl⟩
    | 2 => simp at hf; subst hf; exact ⟨_, _, rfl, rfl, rfl, rfl, by decide, rfl, rfl⟩
    | j + 3 => simp at hf
  · refine ⟨_, _, _, rfl, rfl, rfl, rfl, rfl, rfl, rfl, by decide, rfl, _, rfl, rfl, fun j f hf => ?_⟩
    match j with
    | 0 => simp at hf; subst hf; exact ⟨_, _, rfl, rfl, rfl, rfl, by decide, rfl, rfl⟩
    | 1 => simp at hf; subst hf; exact ⟨_, _, rfl, rfl, rfl, rfl, by decide, rfl, rfl⟩
    | j + 2 => simp at hf
  · refine ⟨_, _, _, rfl, rfl, rfl, rfl, rfl, rfl, rfl, by decide, rfl, _, rfl, rfl, fun j f hf => ?_⟩
    match j with
    | 0 => simp at hf; subst hf; exact ⟨_, _, rfl, rfl, rfl, rfl, by decide, rfl, rfl⟩
    | 1 => simp at hf; subst hf; exact ⟨_, _, rfl, rfl, rfl, rfl, by decide, rfl, rfl⟩
    | j + 2 => simp at hf
  · refine ⟨_, _, _, rfl, rfl, rfl, rfl, rfl, rfl, rfl, by decide, rfl, _, rfl, rfl, fun j f hf => ?_⟩
    match j with
    | 0 => simp at hf; subst hf; exact ⟨_, _, rfl, rfl, rfl, rfl, by decide, rfl, rfl⟩
    | 1 => simp at hf; subst hf; exact ⟨_, _, rfl, rfl, rfl, rfl, by decide, rfl, rfl⟩
    | j + 2 => simp at hf
abbrev vi : V := .one (.c (.int .i64 0))
abbrev vy : V := .one (.c (.int .u8 0))
abbrev vb : V := .one (.c (.bool false))
abbrev vl : V := .one (.c (.sl []))
abbrev vs : V := .one (.c (.str []))
abbrev vj : V := .one .junk

def F5 : FA := { n := 27, sh := [.one (.ag [.sl []]), .one (.ptr 1 0), vb, vi, vb, .one (.ptr 5 0), vb, .one (.ag [.sl []]), vi, vi, vi, vb, .one (.ag [.sl []]), .one (.ag [.sl []]), vb, .one (.ag [.sl []]), .one (.ag [.sl []]), .one (.ag [.sl []]), vb, vb, vb, vb, .one (.ag [.sl []]), .one (.ag [.sl []]), .one (.ag [.sl []]), vb, vb], obs := [(1, [.sl []]), (5, [.sl []])], tk := [8, 10, 19, 20, 22, 23], keep := [(0, [1]), (1, [1, 3]), (2, [1, 3]), (3, [1, 11]), (4, [2]), (5, [1, 4]), (6, [1, 4, 5]), (7, [1, 4, 5, 6]), (8, [1, 5, 21]), (9, [2]), (10, [26]), (11, [2]), (12, [2])] }
def F26 : FA := { n := 12, sh := [.one (.ag [.sl []]), vi, .one (.ptr 2 0), vj, vi, .one (.ptr 2 0), vl, vi, vi, vi, vb, vi], obs := [(2, [.sl []])], tk := [6, 7, 11], keep := [(0, [1, 2]), (1, [1]), (2, [1, 10]), (3, [4]), (4, [4])] }
def F27 : FA := { n := 58, sh := [.one (.ag [.sl []]), .one (.ptr 1 0), vb, vi, .one (.ptr 4 0), vl, vi, .one (.ag [.sl []]), vb, vb, vi, .one (.ptr 1 0), vl, vi, vb, vi, vi, .one (.ptr 1 0), vl, vi, .one (.cp [.str [], .sl [], .int .i64 0, .int .i64 0, .str [], .sl [], .sl []]), .one (.ag [.str [], .sl [], .int .i64 0, .int .i64 0, .str [], .sl [], .sl []]), .one (.ptr 4 2), .one (.ag [.int .i64 0, .int .i64 0, .str [], .sl [], .sl []]), vl, vi, vl, vi, vb, vi, vi, .one (.ptr 4 1), vl, vl, vi, .one (.cp [.str []]), vs, vb, vb, .one (.ag [.sl []]), .one (.ptr 4 0), vs, vi, vi, vb, vb, .one (.ptr 4 1), vl, vb, vb, vb, vb, .one (.ag [.sl []]), .one (.ptr 4 2), .one (.ag [.int .i64 0, .int .i64 0, .str [], .sl [], .sl []]), vb, vb, vb], obs := [(1, [.sl []]), (4, [.str [], .sl [], .int .i64 0, .int .i64 0, .str [], .sl [], .sl []])], tk := [15, 29, 41, 45, 47, 51, 54], keep := [(0, [1]), (1, [1, 9]), (2, [2]), (3, [1, 3]), (4, [1, 3, 14]), (5, [1, 3]), (6, [1, 3, 4]), (7, [1, 3, 4, 5]), (8, [1, 3, 4, 5, 6]), (9, [1, 3, 4, 5, 6, 28]), (10, [1, 3, 4, 5, 6]), (11, [1, 3, 4, 5, 6, 38]), (12, [2]), (13, [1, 3, 57]), (14, [2]), (15, [2])] }
def F28 : FA := { n := 9, sh := [.one (.ag [.sl []]), .one (.ptr 1 0), .one (.ptr 2 0), .one (.ptr 3 0), .one (.ptr 1 0), vl, vl, .one (.ptr 3 0), .one (.ag [.sl []])], obs := [(1, [.sl []]), (2, [.sl []]), (3, [.sl []])], tk := [5, 8], keep := [(0, [1, 2]), (1, [1, 2, 3]), (2, [2, 3]), (3, [2])] }
def F29 : FA := { n := 29, sh := [.one (.ag [.sl []]), .one (.ptr 1 0), vb, vi, .one (.ptr 4 0), .one (.ag [.sl []]), vb, vb, .one (.ptr 1 0), vl, vi, vi, vb, vi, .one (.cp [.str [], .sl [], .int .i64 0, .int .i64 0, .str [], .sl [], .sl []]), .one (.ag [.str [], .sl [], .int .i64 0, .int .i64 0, .str [], .sl [], .sl []]), .one (.ag [.sl []]), .one (.ptr 4 0), vs, vi, vi, vb, vb, .one (.ag [.sl []]), .one (.ag [.str [], .sl [], .int .i64 0, .int .i64 0, .str [], .sl [], .sl []]), vb, vb, vb, vi], obs := [(1, [.sl []]), (4, [.str [], .sl [], .int .i64 0, .int .i64 0, .str [], .sl [], .sl []])], tk := [11, 20, 22, 24], keep := [(0, [1]), (1, [1, 7]), (2, [2]), (3, [1, 9, 10, 11]), (4, [1, 9, 10, 11, 12]), (5, [1, 3, 4, 9, 10, 11]), (6, [1, 9, 10, 11, 27]), (7, [2]), (8, [1, 9, 10, 11]), (9, [2])] }
def F30 : FA := { n := 11, sh := [.one (.ag [.sl []]), .one (.ag [.sl []]), .one (.ptr 2 0), .one (.ptr 3 0), vb, .one (.ptr 2 0), vl, .one (.ptr 3 0), vl, vb, vb], obs := [(2, [.sl []]), (3, [.sl []])], tk := [6, 8], keep := [(0, [2, 3]), (1, [10]), (2, [4]), (3, [4])] }
def F31 : FA := { n := 25, sh := [.one (.ag [.int .i64 0, .int .i64 0, .str [], .sl [], .sl []]), vi, .one (.ptr 2 0), vj, vi, vi, .one (.ptr 2 2), vs, vi, vi, vi, vb, .one (.ptr 2 3), vl, vi, vi, vi, vb, .one (.ptr 2 4), vl, vi, vi, vi, vb, vi], obs := [(2, [.int .i64 0, .int .i64 0, .str [], .sl [], .sl []])], tk := [5, 7, 13, 14, 19, 20, 24], keep := [(0, [1, 2]), (1, [1, 2]), (2, [1, 2, 11]), (3, [4]), (4, [1, 2]), (5, [1, 2, 17]), (6, [4]), (7, [1]), (8, [1, 23]), (9, [4]), (10, [4])] }
def F34 : FA := { n := 22, sh := [.one (.ag [.int .i64 0, .int .i64 0, .str [], .sl [], .sl []]), .one (.ptr 1 0), .one (.ptr 2 0), .one (.ptr 3 0), .one (.ptr 1 0), vi, .one (.ptr 3 0), .one (.ptr 1 1), vi, .one (.ptr 3 1), .one (.ptr 1 2), vs, .one (.ptr 3 2), .one (.ptr 1 3), vl, vl, .one (.ptr 3 3), .one (.ptr 1 4), vl, vl, .one (.ptr 3 4), .one (.ag [.int .i64 0, .int .i64 0, .str [], .sl [], .sl []])], obs := [(1, [.int .i64 0, .int .i64 0, .str [], .sl [], .sl []]), (2, [.int .i64 0, .int .i64 0, .str [], .sl [], .sl []]), (3, [.int .i64 0, .int .i64 0, .str [], .sl [], .sl []])], tk := [5, 8, 11, 14, 18, 21], keep := [(0, [1, 2]), (1, [1, 2, 3]), (2, [1, 2, 3]), (3, [1, 2, 3]), (4, [1, 2, 3]), (5, [1, 2, 3]), (6, [2, 3]), (7, [2])] }
def F39 : FA := { n := 32, sh := [.one (.ag [.int .i64 0, .int .i64 0, .str [], .sl [], .sl []]), .one (.ag [.int .i64 0, .int .i64 0, .str [], .sl [], .sl []]), .one (.ptr 2 0), .one (.ptr 3 0), vb, .one (.ptr 2 0), vi, .one (.ptr 3 0), vi, vb, .one (.ptr 2 1), vi, .one (.ptr 3 1), vi, vb, .one (.ptr 2 2), vs, .one (.ptr 3 2), vs, vb, .one (.ptr 2 3), vl, .one (.ptr 3 3), vl, vb, vb, .one (.ptr 2 4), vl, .one (.ptr 3 4), vl, vb, vb], obs := [(2, [.int .i64 0, .int .i64 0, .str [], .sl [], .sl []]), (3, [.int .i64 0, .int .i64 0, .str [], .sl [], .sl []])], tk := [6, 8, 11, 13, 16, 18, 21, 23, 27, 29], keep := [(0, [2, 3]), (1, [2, 3, 9]), (2, [4]), (3, [2, 3, 14]), (4, [4]), (5, [2, 3, 19]), (6, [4]), (7, [2, 3, 25]), (8, [4]), (9, [31]), (10, [4]), (11, [4])] }
def F59 : FA := { n := 33, sh := [.one (.ag [.int .i64 0, .int .i64 0, .str [], .sl [], .sl []]), .one (.ptr 1 0), vl, vl, vj, .one (.ptr 5 0), .one (.ptr 1 0), vi, vb, vb, .one (.ptr 1 2), vs, vb, vb, .one (.ptr 1 2), vs, vl, .one (.ptr 1 0), vi, vb, .one (.ptr 1 3), vl, vi, vi, vb, .one (.cp [.int .i64 0, .int .i64 0, .str [], .sl [], .sl []]), .one (.ag [.int .i64 0, .int .i64 0, .str [], .sl [], .sl []]), vl, .one (.ag [.int .i64 0, .int .i64 0, .str [], .sl [], .sl []]), vl, vl, vi, vl], obs := [(1, [.int .i64 0, .int .i64 0, .str [], .sl [], .sl []]), (5, [.int .i64 0, .int .i64 0, .str [], .sl [], .sl []])], tk := [9, 15, 18, 21, 23, 27, 28, 32], dp := [16, 30], keep := [(0, [1]), (1, [1, 13]), (2, [2]), (3, [1, 19]), (4, [2]), (5, [1, 3]), (6, [3, 21, 22, 23]), (7, [3, 21, 22, 23, 24]), (8, [3, 5, 21, 22, 23]), (9, [3, 21, 22, 23]), (10, [3, 21, 22, 23]), (11, [2])] }
def F69 : FA := { n := 15, sh := [vi, vi, vi, vj, vj, vj, vb, vi, vi, vb, vb, vi, vi, vb, vb], obs := [], tk := [8, 10, 11, 12], keep := [(0, [0, 1, 2]), (1, [6])] }
def F72 : FA := { n := 18, sh := [vl, vj, vb, vi, vi, vl, vi, vb, vi, vi, vl, vi, vl, vl, vi, .one (.cp [.str []]), vs, vb], obs := [], tk := [8], keep := [(0, [0]), (1, [0, 3]), (2, [0, 3, 7]), (3, [0, 3]), (4, [0, 3, 17]), (5, [2]), (6, [2])] }
def F75 : FA := { n := 15, sh := [vi, vi, vi, vj, vj, vj, vb, vi, vi, vb, vb, vi, vi, vb, vb], obs := [], tk := [8, 10, 11, 12], keep := [(0, [0, 1, 2]), (1, [6])] }
def F77 : FA := { n := 9, sh := [vl, vs, vj, vj, vb, vl, vs, vi, vb], obs := [], tk := [5, 6], keep := [(0, [0, 1]), (1, [4])] }
def F93 : FA := { n := 27, sh := [vl, vi, vj, vj, vi, vi, vi, vl, vi, vi, vi, vb, vi, vl, vi, vb, vi, vi, vl, vi, .one (.cp [.str [], .sl [], .int .i64 0, .int .i64 0, .str [], .sl [], .sl []]), .one (.ag [.str [], .sl [], .int .i64 0, .int .i64 0, .str [], .sl [], .sl []]), vi, vi, vi, vb, vi], obs := [], tk := [6, 16, 22, 26], keep := [(0, [0, 1]), (1, [0, 1]), (2, [0, 1, 11]), (3, [4]), (4, [0, 1, 5]), (5, [0, 1, 5, 15]), (6, [0, 1, 5]), (7, [0, 1, 5]), (8, [0, 1, 5, 25]), (9, [4]), (10, [4])] }
def F94 : FA := { n := 22, sh := [.one (.ag [.sl []]), .one (.ptr 1 0), vb, vi, vi, .one (.ptr 1 0), vl, vi, vb, vi, vi, .one (.ptr 1 0), vl, vi, .one (.cp [.str [], .sl [], .int .i64 0, .int .i64 0, .str [], .sl [], .sl []]), .one (.ag [.str [], .sl [], .int .i64 0, .int .i64 0, .str [], .sl [], .sl []]), vb, vb, .one (.ptr 1 0), vl, vi, vb], obs := [(1, [.sl []])], tk := [9, 19], keep := [(0, [1]), (1, [1, 3]), (2, [1, 3, 8]), (3, [1, 3]), (4, [1, 3, 17]), (5, [2]), (6, [2])] }
def F95 : FA := { n := 7, sh := [.one (.ag [.int .i64 0, .int .i64 0, .str [], .sl [], .sl []]), .one (.ptr 1 0), vl, vl, vl, .one (.ag [.int .i64 0, .int .i64 0, .str [], .sl [], .sl []]), vl], obs := [(1, [.int .i64 0, .int .i64 0, .str [], .sl [], .sl []])], tk := [5], dp := [3, 4], fz := [4], keep := [(0, [1]), (1, [2])] }
def F96 : FA := { n := 18, sh := [vl, vs, vj, vj, vb, vi, vi, vl, vi, vb, vi, vi, vl, vi, .one (.cp [.str []]), vs, vs, vb], obs := [], tk := [10], keep := [(0, [0, 1]), (1, [0, 1, 5]), (2, [0, 1, 5, 9]), (3, [0, 1, 5]), (4, [0, 1, 5, 17]), (5, [4]), (6, [4])] }
def F97 : FA := { n := 22, sh := [.one (.ag [.sl []]), vs, .one (.ptr 2 0), vj, vi, vi, vi, .one (.ptr 2 0), vl, vi, vb, vi, vi, .one (.ptr 2 0), vl, vi, .one (.cp [.str [], .sl [], .int .i64 0, .int .i64 0, .str [], .sl [], .sl []]), .one (.cp [.str [], .sl [], .int .i64 0, .int .i64 0, .str [], .sl [], .sl []]), vs, vs, vb, vi], obs := [(2, [.sl []])], tk := [11, 21], keep := [(0, [1, 2]), (1, [1, 2, 5]), (2, [1, 2, 5, 10]), (3, [1, 2, 5]), (4, [1, 2, 5, 20]), (5, [4]), (6, [4])] }
def F98 : FA := { n := 61, sh := [.one (.ag [.sl []]), .one (.ag [.int .i64 0, .int .i64 0, .str [], .sl [], .sl []]), .one (.ptr 2 0), .one (.ptr 3 0), vb, vi, vi, vi, .one (.ptr 3 0), vi, vb, .one (.ag [.sl []]), .one (.ptr 3 2), vs, vi, vi, vb, vb, .one (.ptr 2 0), vl, vi, .one (.cp [.str [], .sl [], .int .i64 0, .int .i64 0, .str [], .sl [], .sl []]), .one (.cp [.sl [], .int .i64 0, .int .i64 0, .str [], .sl [], .sl []]), vl, vi, .one (.ptr 3 3), vl, vi, vb, vb, vi, .one (.ptr 3 3), vl, vi, vb, vi, vi, .one (.ag [.sl []]), .one (.ptr 3 3), vl, vi, .one (.cp [.int .i64 0, .int .i64 0, .str [], .sl [], .sl []]), .one (.ag [.int .i64 0, .int .i64 0, .str [], .sl [], .sl []]), vb, vb, vi, .one (.ptr 3 4), vl, vi, vb, vi, vi, .one (.ag [.sl []]), .one (.ptr 3 4), vl, vi, .one (.cp [.int .i64 0, .int .i64 0, .str [], .sl [], .sl [], .int .i64 0, .int .i64 0, .str [], .sl [], .sl []]), .one (.cp [.int .i64 0, .int .i64 0, .str [], .sl [], .sl []]), .one (.ag [.int .i64 0, .int .i64 0, .str [], .sl [], .sl []]), vb, vb], obs := [(2, [.sl []]), (3, [.int .i64 0, .int .i64 0, .str [], .sl [], .sl []])], tk := [9, 13, 17, 20, 35, 50], keep := [(0, [2, 3]), (1, [2, 3, 10]), (2, [2, 3, 5]), (3, [2, 3, 29]), (4, [4]), (5, [2, 3, 6]), (6, [2, 3, 6, 34]), (7, [2, 3, 6]), (8, [2, 3, 6, 44]), (9, [4]), (10, [2, 3, 7]), (11, [2, 3, 7, 49]), (12, [2, 3, 7]), (13, [2, 3, 7, 60]), (14, [4]), (15, [4])] }
def F99 : FA := { n := 23, sh := [vl, vj, vl, vl, vi, vl, vi, vl, vi, vl, vi, vb, vi, vi, .one (.al (.s 3 0 0) []), vi, vl, vi, .one (.cp [.str [], .sl [], .int .i64 0, .int .i64 0, .str [], .sl [], .sl []]), .one (.ag [.str [], .sl [], .int .i64 0, .int .i64 0, .str [], .sl [], .sl []]), .one (.ag [.str [], .sl [], .int .i64 0, .int .i64 0, .str [], .sl [], .sl []]), .one (.pp (.s 3 0 0) [] 0 0), vl], obs := [], al := [14], tk := [12, 22], keep := [(0, [0]), (1, [0, 3]), (2, [0, 3, 4]), (3, [0, 3, 4, 11]), (4, [0, 3, 4]), (5, [0, 3, 4]), (6, [2])] }
def F100 : FA := { n := 20, sh := [.one (.ag [.sl []]), .one (.ptr 1 0), vb, vj, .one (.ptr 4 0), .one (.ptr 1 0), vl, vi, vi, vb, .one (.cp [.str [], .sl [], .int .i64 0, .int .i64 0, .str [], .sl [], .sl []]), .one (.ag [.str [], .sl [], .int .i64 0, .int .i64 0, .str [], .sl [], .sl []]), .one (.ag [.str [], .sl [], .int .i64 0, .int .i64 0, .str [], .sl [], .sl []]), vb, vb, vi, .one (.ptr 1 0), vl, vi, vb], obs := [(1, [.sl []]), (4, [.str [], .sl [], .int .i64 0, .int .i64 0, .str [], .sl [], .sl []])], tk := [8, 12, 17], keep := [(0, [1]), (1, [1, 6, 7, 8]), (2, [1, 6, 7, 8, 9]), (3, [1, 4, 6, 7, 8]), (4, [1, 6, 7, 8, 14]), (5, [2]), (6, [1, 6, 7, 8]), (7, [2])] }
def F101 : FA := { n := 9, sh := [.one (.ag [.sl []]), vs, .one (.ptr 2 0), .one (.ptr 3 0), vi, .one (.ptr 2 0), vl, .one (.fn 176 [(3, 0)]), vi], obs := [(2, [.sl []]), (3, [.str []])], tk := [6], keep := [(0, [2, 3]), (1, [4])] }
def F102 : FA := { n := 44, sh := [.one (.ag [.sl []]), .one (.ag [.str [], .sl [], .int .i64 0, .int .i64 0, .str [], .sl [], .sl []]), .one (.ptr 2 0), .one (.ptr 3 0), vb, vi, vs, vj, vs, .one (.ptr 9 0), .one (.ptr 3 1), vl, vi, vi, vb, vi, .one (.cp [.str []]), vs, .one (.ptr 3 1), vl, vs, vi, vi, vb, vi, .one (.ptr 3 2), .one (.ag [.int .i64 0, .int .i64 0, .str [], .sl [], .sl []]), vl, vi, vi, vb, .one (.cp [.str []]), vs, .one (.ptr 3 1), vl, vs, vb, vb, vi, .one (.ptr 3 2), .one (.ag [.int .i64 0, .int .i64 0, .str [], .sl [], .sl []]), .one (.fn 179 [(2, 0), (9, 0)]), .tup [], vb], obs := [(2, [.sl []]), (3, [.str [], .sl [], .int .i64 0, .int .i64 0, .str [], .sl [], .sl []]), (9, [.bool false])], tk := [13, 20, 22, 29, 35, 40, 43], keep := [(0, [2, 3]), (1, [2, 3, 11, 12, 13]), (2, [2, 3, 11, 12, 13, 14]), (3, [2, 3, 5, 6, 11, 12, 13]), (4, [2, 3, 11, 12, 13, 23]), (5, [4]), (6, [2, 3, 11, 12, 13]), (7, [2, 3, 27, 28, 29]), (8, [2, 3, 27, 28, 29, 30]), (9, [2, 3, 8, 27, 28, 29]), (10, [2, 3, 27, 28, 29, 37]), (11, [4]), (12, [2, 3, 27, 28, 29]), (13, [2, 3, 9]), (14, [9]), (15, [4])] }
def F103 : FA := { n := 27, sh := [vl, vl, vj, vj, vb, vi, vl, vi, vl, vi, vb, vi, vl, vi, vb, vi, vi, vl, vi, .one (.cp [.str [], .sl [], .int .i64 0, .int .i64 0, .str [], .sl [], .sl []]), .one (.ag [.str [], .sl [], .int .i64 0, .int .i64 0, .str [], .sl [], .sl []]), vl, vi, .one (.cp [.str [], .sl [], .int .i64 0, .int .i64 0, .str [], .sl [], .sl []]), .one (.ag [.str [], .sl [], .int .i64 0, .int .i64 0, .str [], .sl [], .sl []]), vb, vb], obs := [], tk := [15], keep := [(0, [0, 1]), (1, [0, 1, 10]), (2, [4]), (3, [0, 1, 5]), (4, [0, 1, 5, 14]), (5, [0, 1, 5]), (6, [0, 1, 5, 26]), (7, [4]), (8, [4])] }
def F104 : FA := { n := 27, sh := [vl, vi, vj, vj, vi, vi, vi, vl, vi, vi, vi, vb, vi, vl, vi, vb, vi, vi, vl, vi, .one (.cp [.int .i64 0, .int .i64 0, .str [], .sl [], .sl []]), .one (.ag [.int .i64 0, .int .i64 0, .str [], .sl [], .sl []]), vi, vi, vi, vb, vi], obs := [], tk := [6, 16, 22, 26], keep := [(0, [0, 1]), (1, [0, 1]), (2, [0, 1, 11]), (3, [4]), (4, [0, 1, 5]), (5, [0, 1, 5, 15]), (6, [0, 1, 5]), (7, [0, 1, 5]), (8, [0, 1, 5, 25]), (9, [4]), (10, [4])] }
def F105 : FA := { n := 27, sh := [vl, vi, vj, vj, vi, vi, vi, vl, vi, vi, vi, vb, vi, vl, vi, vb, vi, vi, vl, vi, .one (.cp [.int .i64 0, .int .i64 0, .str [], .sl [], .sl [], .int .i64 0, .int .i64 0, .str [], .sl [], .sl []]), .one (.ag [.int .i64 0, .int .i64 0, .str [], .sl [], .sl [], .int .i64 0, .int .i64 0, .str [], .sl [], .sl []]), vi, vi, vi, vb, vi], obs := [], tk := [6, 16, 22, 26], keep := [(0, [0, 1]), (1, [0, 1]), (2, [0, 1, 11]), (3, [4]), (4, [0, 1, 5]), (5, [0, 1, 5, 15]), (6, [0, 1, 5]), (7, [0, 1, 5]), (8, [0, 1, 5, 25]), (9, [4]), (10, [4])] }
def F110 : FA := { n := 23, sh := [vl, vj, vl, vl, vi, vl, vi, vl, vi, vl, vi, vb, vi, vi, .one (.al (.s 3 0 0) []), vi, vl, vi, .one (.cp [.int .i64 0, .int .i64 0, .str [], .sl [], .sl []]), .one (.ag [.int .i64 0, .int .i64 0, .str [], .sl [], .sl []]), .one (.ag [.int .i64 0, .int .i64 0, .str [], .sl [], .sl []]), .one (.pp (.s 3 0 0) [] 0 0), vl], obs := [], al := [14], tk := [12, 22], keep := [(0, [0]), (1, [0, 3]), (2, [0, 3, 4]), (3, [0, 3, 4, 11]), (4, [0, 3, 4]), (5, [0, 3, 4]), (6, [2])] }
def F111 : FA := { n := 23, sh := [vl, vj, vl, vl, vi, vl, vi, vl, vi, vl, vi, vb, vi, vi, .one (.al (.s 3 0 0) []), vi, vl, vi, .one (.cp [.int .i64 0, .int .i64 0, .str [], .sl [], .sl [], .int .i64 0, .int .i64 0, .str [], .sl [], .sl []]), .one (.ag [.int .i64 0, .int .i64 0, .str [], .sl [], .sl [], .int .i64 0, .int .i64 0, .str [], .sl [], .sl []]), .one (.ag [.int .i64 0, .int .i64 0, .str [], .sl [], .sl [], .int .i64 0, .int .i64 0, .str [], .sl [], .sl []]), .one (.pp (.s 3 0 0) [] 0 0), vl], obs := [], al := [14], tk := [12, 22], keep := [(0, [0]), (1, [0, 3]), (2, [0, 3, 4]), (3, [0, 3, 4, 11]), (4, [0, 3, 4]), (5, [0, 3, 4]), (6, [2])] }
def F114 : FA := { n := 27, sh := [vl, vl, vj, vj, vb, vi, vl, vi, vl, vi, vb, vi, vl, vi, vb, vi, vi, vl, vi, .one (.cp [.int .i64 0, .int .i64 0, .str [], .sl [], .sl []]), .one (.ag [.int .i64 0, .int .i64 0, .str [], .sl [], .sl []]), vl, vi, .one (.cp [.int .i64 0, .int .i64 0, .str [], .sl [], .sl []]), .one (.ag [.int .i64 0, .int .i64 0, .str [], .sl [], .sl []]), vb, vb], obs := [], tk := [15], keep := [(0, [0, 1]), (1, [0, 1, 10]), (2, [4]), (3, [0, 1, 5]), (4, [0, 1, 5, 14]), (5, [0, 1, 5]), (6, [0, 1, 5, 26]), (7, [4]), (8, [4])] }
def F115 : FA := { n := 27, sh := [vl, vl, vj, vj, vb, vi, vl, vi, vl, vi, vb, vi, vl, vi, vb, vi, vi, vl, vi, .one (.cp [.int .i64 0, .int .i64 0, .str [], .sl [], .sl [], .int .i64 0, .int .i64 0, .str [], .sl [], .sl []]), .one (.ag [.int .i64 0, .int .i64 0, .str [], .sl [], .sl [], .int .i64 0, .int .i64 0, .str [], .sl [], .sl []]), vl, vi, .one (.cp [.int .i64 0, .int .i64 0, .str [], .sl [], .sl [], .int .i64 0, .int .i64 0, .str [], .sl [], .sl []]), .one (.ag [.int .i64 0, .int .i64 0, .str [], .sl [], .sl [], .int .i64 0, .int .i64 0, .str [], .sl [], .sl []]), vb, vb], obs := [], tk := [15], keep := [(0, [0, 1]), (1, [0, 1, 10]), (2, [4]), (3, [0, 1, 5]), (4, [0, 1, 5, 14]), (5, [0, 1, 5]), (6, [0, 1, 5, 26]), (7, [4]), (8, [4])] }
def F156 : FA := { n := 19, sh := [vl, vs, vj, vj, vi, vi, vl, vi, vi, vb, vi, vs, vl, vi, .one (.cp [.str []]), vs, vb, vi, vi], obs := [], tk := [8, 17], keep := [(0, [0, 1]), (1, [0, 1, 7, 8]), (2, [0, 1, 7, 8, 9]), (3, [0, 1, 5, 7, 8]), (4, [0, 1, 5, 7, 8, 16]), (5, [4]), (6, [0, 1, 7, 8]), (7, [4])] }
def F170 : FA := { n := 25, sh := [.one (.ag [.str [], .sl [], .int .i64 0, .int .i64 0, .str [], .sl [], .sl []]), vi, .one (.ptr 2 0), vj, vi, vi, .one (.ptr 2 0), vs, vi, vi, vi, vb, .one (.ptr 2 1), vl, vi, vi, vi, vb, .one (.ptr 2 2), .one (.ag [.int .i64 0, .int .i64 0, .str [], .sl [], .sl []]), vi, vi, vi, vb, vi], obs := [(2, [.str [], .sl [], .int .i64 0, .int .i64 0, .str [], .sl [], .sl []])], tk := [5, 7, 13, 14, 19, 20, 24], keep := [(0, [1, 2]), (1, [1, 2]), (2, [1, 2, 11]), (3, [4]), (4, [1, 2]), (5, [1, 2, 17]), (6, [4]), (7, [1]), (8, [1, 23]), (9, [4]), (10, [4])] }
def F171 : FA := { n := 40, sh := [.one (.ag [.str [], .sl [], .int .i64 0, .int .i64 0, .str [], .sl [], .sl []]), .one (.ptr 1 0), vb, vi, vi, .one (.ptr 1 1), vl, vi, vb, vi, vi, .one (.ptr 1 1), vl, vi, .one (.cp [.str []]), vs, vb, vb, vb, .one (.ptr 1 1), vl, vi, .one (.cp [.str []]), vs, vb, vb, .one (.ptr 1 0), vs, vb, vb, .one (.ptr 1 1), vl, vi, vb, vb, vb, .one (.ptr 1 2), .one (.ag [.int .i64 0, .int .i64 0, .str [], .sl [], .sl []]), vb, vb], obs := [(1, [.str [], .sl [], .int .i64 0, .int .i64 0, .str [], .sl [], .sl []])], tk := [9, 18, 27, 29, 31, 35, 37], keep := [(0, [1]), (1, [1, 3]), (2, [1, 3, 8]), (3, [1, 3]), (4, [1, 3, 25]), (5, [2]), (6, [2])] }
def F172 : FA := { n := 74, sh := [vl, vl, .one (.ag [.int .i64 0, .int .i64 0, .str [], .sl [], .sl []]), vj, vj, .one (.ptr 5 0), vl, vi, vi, vl, .one (.ptr 5 0), vi, vb, vl, .one (.ptr 5 2), vs, vb, vb, vb, vl, .one (.ptr 5 2), vs, vb, vb, vb, vl, .one (.ptr 5 2), vs, vl, vl, vl, vi, .one (.ptr 5 3), vl, vi, vb, vi, vi, vl, vl, .one (.ptr 5 3), vl, vi, .one (.cp [.int .i64 0, .int .i64 0, .str [], .sl [], .sl []]), .one (.ag [.int .i64 0, .int .i64 0, .str [], .sl [], .sl []]), vl, vi, .one (.ptr 5 4), vl, vi, vb, vi, vi, vl, vl, vl, .one (.ptr 5 4), vl, vi, .one (.cp [.int .i64 0, .int .i64 0, .str [], .sl [], .sl [], .int .i64 0, .int .i64 0, .str [], .sl [], .sl []]), .one (.cp [.int .i64 0, .int .i64 0, .str [], .sl [], .sl [], .int .i64 0, .int .i64 0, .str [], .sl [], .sl []]), .one (.ag [.int .i64 0, .int .i64 0, .str [], .sl [], .sl []]), vl, vl, vl, vl, .one (.ptr 5 4), vl, vi, .one (.cp [.int .i64 0, .int .i64 0, .str [], .sl [], .sl [], .int .i64 0, .int .i64 0, .str [], .sl [], .sl []]), .one (.cp [.int .i64 0, .int .i64 0, .str [], .sl [], .sl []]), .one (.ag [.int .i64 0, .int .i64 0, .str [], .sl [], .sl []]), vl, vl], obs := [(5, [.int .i64 0, .int .i64 0, .str [], .sl [], .sl []])], tk := [11, 13, 18, 25, 27, 30, 36, 38, 51, 64, 65, 73], dp := [28, 53, 55, 63], fz := [65], keep := [(0, [0, 1, 5]), (1, [0, 1, 5, 12]), (2, [0, 5, 24]), (3, [0]), (4, [6]), (5, [0, 1, 5, 7]), (6, [0, 1, 5, 7, 35]), (7, [0, 1, 5, 7]), (8, [0, 1, 5, 7]), (9, [0, 1, 5, 8]), (10, [0, 1, 5, 8, 50]), (11, [0, 1, 5, 8]), (12, [0, 1, 5, 8, 9]), (13, [0, 1, 5, 8]), (14, [6])] }
def F173 : FA := { n := 16, sh := [.one (.ag [.str [], .sl [], .int .i64 0, .int .i64 0, .str [], .sl [], .sl []]), .one (.ptr 1 0), .one (.ptr 2 0), .one (.ptr 3 0), .one (.ptr 1 0), vs, .one (.ptr 3 0), .one (.ptr 1 1), vl, vl, .one (.ptr 3 1), .one (.ptr 1 2), .one (.ag [.int .i64 0, .int .i64 0, .str [], .sl [], .sl []]), .one (.ag [.int .i64 0, .int .i64 0, .str [], .sl [], .sl []]), .one (.ptr 3 2), .one (.ag [.str [], .sl [], .int .i64 0, .int .i64 0, .str [], .sl [], .sl []])], obs := [(1, [.str [], .sl [], .int .i64 0, .int .i64 0, .str [], .sl [], .sl []]), (2, [.str [], .sl [], .int .i64 0, .int .i64 0, .str [], .sl [], .sl []]), (3, [.str [], .sl [], .int .i64 0, .int .i64 0, .str [], .sl [], .sl []])], tk := [5, 8, 12, 15], keep := [(0, [1, 2]), (1, [1, 2, 3]), (2, [1, 2, 3]), (3, [1, 2, 3]), (4, [2, 3]), (5, [2])] }
def F174 : FA := { n := 34, sh := [.one (.ag [.str [], .sl [], .int .i64 0, .int .i64 0, .str [], .sl [], .sl []]), .one (.ptr 1 0), vb, vj, vs, .one (.ptr 1 1), vl, vi, vi, vb, .one (.cp [.str []]), vs, vs, vb, vb, vb, vs, vb, vb, vi, .one (.ptr 1 0), vs, vb, vb, .one (.ptr 1 1), vl, vi, vb, vb, vb, .one (.ptr 1 2), .one (.ag [.int .i64 0, .int .i64 0, .str [], .sl [], .sl []]), vb, vb], obs := [(1, [.str [], .sl [], .int .i64 0, .int .i64 0, .str [], .sl [], .sl []])], tk := [8, 15, 16, 21, 23, 25, 29, 31], keep := [(0, [1]), (1, [1, 6, 7, 8]), (2, [1, 6, 7, 8, 9]), (3, [1, 4, 6, 7, 8]), (4, [1, 6, 7, 8, 18]), (5, [2]), (6, [1, 6, 7, 8]), (7, [2])] }
def F175 : FA := { n := 19, sh := [vl, .one (.fn 176 [(1000000, 0)]), vj, vj, vi, vi, vl, vi, vi, vb, vi, .one (.fn 176 [(1000000, 0)]), vl, vi, .one (.cp [.str [], .sl [], .int .i64 0, .int .i64 0, .str [], .sl [], .sl []]), .one (.ag [.str [], .sl [], .int .i64 0, .int .i64 0, .str [], .sl [], .sl []]), vb, vi, vi], obs := [(1000000, [.str []])], tk := [8, 17], keep := [(0, [0, 1]), (1, [0, 1, 7, 8]), (2, [0, 1, 7, 8, 9]), (3, [0, 1, 5, 7, 8]), (4, [0, 1, 5, 7, 8, 16]), (5, [4]), (6, [0, 1, 7, 8]), (7, [4])] }
def F176 : FA := { n := 8, sh := [.one (.ag [.str [], .sl [], .int .i64 0, .int .i64 0, .str [], .sl [], .sl []]), .one (.ptr 1000000 0), .one (.ptr 2 0), vb, .one (.ptr 2 0), vs, vs, vb], obs := [(2, [.str [], .sl [], .int .i64 0, .int .i64 0, .str [], .sl [], .sl []]), (1000000, [.str []])], tk := [5], keep := [(0, [1, 2]), (1, [3])] }
def F177 : FA := { n := 58, sh := [.one (.ag [.int .i64 0, .int .i64 0, .str [], .sl [], .sl []]), .one (.ptr 1 0), vl, vl, vj, .one (.ptr 5 0), vj, .one (.ptr 7 0), vl, vj, vs, .one (.ptr 1 0), vi, vb, .one (.ptr 1 2), vs, vl, .one (.ptr 1 3), vl, vi, vi, vb, .one (.cp [.int .i64 0, .int .i64 0, .str [], .sl [], .sl []]), .one (.ag [.int .i64 0, .int .i64 0, .str [], .sl [], .sl []]), vl, .one (.ag [.int .i64 0, .int .i64 0, .str [], .sl [], .sl []]), vl, vl, vi, .one (.ptr 1 4), vl, vi, vi, vb, .one (.cp [.int .i64 0, .int .i64 0, .str [], .sl [], .sl [], .int .i64 0, .int .i64 0, .str [], .sl [], .sl []]), .one (.ag [.int .i64 0, .int .i64 0, .str [], .sl [], .sl [], .int .i64 0, .int .i64 0, .str [], .sl [], .sl []]), .one (.ptr 7 0), .one (.ag [.int .i64 0, .int .i64 0, .str [], .sl [], .sl []]), vl, .one (.ptr 7 5), .one (.ag [.int .i64 0, .int .i64 0, .str [], .sl [], .sl []]), vl, vi, vi, vb, .one (.cp [.str []]), vs, vl, vs, vb, vb, vl, vs, vl, vl, vi, vi, vl], obs := [(1, [.int .i64 0, .int .i64 0, .str [], .sl [], .sl []]), (5, [.int .i64 0, .int .i64 0, .str [], .sl [], .sl []]), (7, [.int .i64 0, .int .i64 0, .str [], .sl [], .sl [], .int .i64 0, .int .i64 0, .str [], .sl [], .sl []])], tk := [12, 15, 18, 20, 24, 25, 30, 32, 37, 40, 43, 51, 52, 57], dp := [16, 53], fz := [26, 53], keep := [(0, [1]), (1, [1, 13]), (2, [2]), (3, [1, 3]), (4, [1, 3, 18, 19, 20]), (5, [1, 3, 18, 19, 20, 21]), (6, [1, 3, 5, 18, 19, 20]), (7, [1, 3, 18, 19, 20]), (8, [1, 3, 18, 19, 20]), (9, [3, 30, 31, 32]), (10, [3, 30, 31, 32, 33]), (11, [3, 7, 30, 31, 32]), (12, [3, 7, 8, 30, 31, 32]), (13, [3, 8, 30, 31, 32, 41, 42, 43]), (14, [3, 8, 30, 31, 32, 41, 42, 43, 44]), (15, [3, 8, 10, 30, 31, 32, 41, 42, 43]), (16, [3, 8, 10, 30, 31, 32, 41, 42, 43, 50]), (17, [3, 8, 30, 31, 32, 41, 42, 43]), (18, [3, 8, 30, 31, 32, 41, 42, 43]), (19, [3, 30, 31, 32]), (20, [2])] }
def F178 : FA := { n := 37, sh := [.one (.ag [.int .i64 0, .int .i64 0, .str [], .sl [], .sl []]), .one (.fn 179 [(1000000, 0), (1000001, 0)]), .one (.ptr 2 0), vj, vj, .one (.ptr 5 0), vj, .one (.ptr 7 0), .one (.ptr 2 0), vi, vb, .one (.fn 179 [(1000000, 0), (1000001, 0)]), .one (.ag [.int .i64 0, .int .i64 0, .str [], .sl [], .sl []]), .tup [], .one (.ptr 2 3), vl, vi, vi, vb, .one (.cp [.int .i64 0, .int .i64 0, .str [], .sl [], .sl []]), .one (.ag [.int .i64 0, .int .i64 0, .str [], .sl [], .sl []]), .one (.ag [.int .i64 0, .int .i64 0, .str [], .sl [], .sl []]), .one (.fn 179 [(1000000, 0), (1000001, 0)]), .tup [], vi, .one (.ptr 2 4), vl, vi, vi, vb, .one (.cp [.int .i64 0, .int .i64 0, .str [], .sl [], .sl [], .int .i64 0, .int .i64 0, .str [], .sl [], .sl []]), .one (.ag [.int .i64 0, .int .i64 0, .str [], .sl [], .sl [], .int .i64 0, .int .i64 0, .str [], .sl [], .sl []]), .one (.ptr 7 5), .one (.ag [.int .i64 0, .int .i64 0, .str [], .sl [], .sl []]), .one (.fn 179 [(1000000, 0), (1000001, 0)]), .tup [], vi], obs := [(2, [.int .i64 0, .int .i64 0, .str [], .sl [], .sl []]), (5, [.int .i64 0, .int .i64 0, .str [], .sl [], .sl []]), (7, [.int .i64 0, .int .i64 0, .str [], .sl [], .sl [], .int .i64 0, .int .i64 0, .str [], .sl [], .sl []]), (1000000, [.sl []]), (1000001, [.bool false])], tk := [15, 17, 21, 26, 28, 33], keep := [(0, [1, 2]), (1, [1, 2, 10]), (2, [1, 2]), (3, [1, 2, 15, 16, 17]), (4, [1, 2, 15, 16, 17, 18]), (5, [1, 2, 5, 15, 16, 17]), (6, [1, 2, 15, 16, 17]), (7, [1, 2, 15, 16, 17]), (8, [1, 26, 27, 28]), (9, [1, 26, 27, 28, 29]), (10, [1, 7, 26, 27, 28]), (11, [1, 26, 27, 28]), (12, [1, 26, 27, 28])] }
def F179 : FA := { n := 27, sh := [.one (.ag [.int .i64 0, .int .i64 0, .str [], .sl [], .sl []]), .one (.ptr 1000000 0), .one (.ptr 1000001 0), .one (.ptr 3 0), vi, .one (.ag [.sl []]), .one (.ptr 3 2), vs, vi, vb, vb, vi, vb, vb, vb, .one (.ptr 1000000 0), vl, vi, .one (.cp [.str [], .sl [], .int .i64 0, .int .i64 0, .str [], .sl [], .sl []]), .one (.cp [.sl [], .int .i64 0, .int .i64 0, .str [], .sl [], .sl []]), vl, vi, .one (.ptr 3 3), vl, vi, vb, vb], obs := [(3, [.int .i64 0, .int .i64 0, .str [], .sl [], .sl []]), (1000000, [.sl []]), (1000001, [.bool false])], tk := [7, 9, 10, 14, 17, 23], keep := [(0, [1, 2, 3]), (1, [1, 2, 3, 4]), (2, [])] }
def F180 : FA := { n := 22, sh := [.one (.ag [.str [], .sl [], .int .i64 0, .int .i64 0, .str [], .sl [], .sl []]), .one (.ag [.str [], .sl [], .int .i64 0, .int .i64 0, .str [], .sl [], .sl []]), .one (.ptr 2 0), .one (.ptr 3 0), vb, .one (.ptr 2 0), vs, .one (.ptr 3 0), vs, vb, .one (.ptr 2 1), vl, .one (.ptr 3 1), vl, vb, vb, .one (.ptr 2 2), .one (.ag [.int .i64 0, .int .i64 0, .str [], .sl [], .sl []]), .one (.ptr 3 2), .one (.ag [.int .i64 0, .int .i64 0, .str [], .sl [], .sl []]), vb, vb], obs := [(2, [.str [], .sl [], .int .i64 0, .int .i64 0, .str [], .sl [], .sl []]), (3, [.str [], .sl [], .int .i64 0, .int .i64 0, .str [], .sl [], .sl []])], tk := [6, 8, 11, 13, 17, 19], keep := [(0, [2, 3]), (1, [2, 3, 9]), (2, [4]), (3, [2, 3, 15]), (4, [4]), (5, [21]), (6, [4]), (7, [4])] }
def F181 : FA := { n := 18, sh := [.one (.ag [.int .i64 0, .int .i64 0, .str [], .sl [], .sl [], .int .i64 0, .int .i64 0, .str [], .sl [], .sl []]), vi, .one (.ptr 2 0), vj, vi, .one (.ptr 2 0), .one (.ag [.int .i64 0, .int .i64 0, .str [], .sl [], .sl []]), vi, vi, vi, vb, .one (.ptr 2 5), .one (.ag [.int .i64 0, .int .i64 0, .str [], .sl [], .sl []]), vi, vi, vi, vb, vi], obs := [(2, [.int .i64 0, .int .i64 0, .str [], .sl [], .sl [], .int .i64 0, .int .i64 0, .str [], .sl [], .sl []])], tk := [6, 7, 12, 13, 17], keep := [(0, [1, 2]), (1, [1, 2]), (2, [1, 2, 10]), (3, [4]), (4, [1]), (5, [1, 16]), (6, [4]), (7, [4])] }
def F183 : FA := { n := 89, sh := [.one (.ag [.int .i64 0, .int .i64 0, .str [], .sl [], .sl []]), vb, vi, vi, .one (.ptr 4 0), vj, vj, vj, vi, vi, vi, vi, vb, vb, vi, vb, vb, vb, .one (.ag [.int .i64 0, .int .i64 0, .str [], .sl [], .sl []]), vb, vb, vb, vb, vi, vi, vi, .one (.ptr 4 3), vl, vi, vb, vb, vi, vb, vb, vi, vi, .one (.ptr 4 3), vl, vi, .one (.cp [.int .i64 0, .int .i64 0, .str [], .sl [], .sl []]), .one (.ag [.int .i64 0, .int .i64 0, .str [], .sl [], .sl []]), vb, vi, vi, vi, vi, vi, .one (.ptr 4 4), vl, vi, vb, vb, vi, vb, vb, vi, vi, .one (.ptr 4 4), vl, vi, .one (.cp [.int .i64 0, .int .i64 0, .str [], .sl [], .sl [], .int .i64 0, .int .i64 0, .str [], .sl [], .sl []]), .one (.cp [.int .i64 0, .int .i64 0, .str [], .sl [], .sl [], .int .i64 0, .int .i64 0, .str [], .sl [], .sl []]), .one (.ag [.int .i64 0, .int .i64 0, .str [], .sl [], .sl []]), vl, vb, vb, .one (.ptr 4 4), vl, vi, .one (.cp [.int .i64 0, .int .i64 0, .str [], .sl [], .sl [], .int .i64 0, .int .i64 0, .str [], .sl [], .sl []]), .one (.cp [.int .i64 0, .int .i64 0, .str [], .sl [], .sl [], .int .i64 0, .int .i64 0, .str [], .sl [], .sl []]), .one (.ag [.int .i64 0, .int .i64 0, .str [], .sl [], .sl []]), vi, vi, vi, vi, vi, vb, .one (.ptr 4 4), vl, vi, .one (.cp [.int .i64 0, .int .i64 0, .str [], .sl [], .sl [], .int .i64 0, .int .i64 0, .str [], .sl [], .sl []]), .one (.cp [.int .i64 0, .int .i64 0, .str [], .sl [], .sl []]), .one (.ag [.int .i64 0, .int .i64 0, .str [], .sl [], .sl []]), vi, vi, vi, vi, vi], obs := [(4, [.int .i64 0, .int .i64 0, .str [], .sl [], .sl []])], tk := [13, 17, 23, 30, 34, 44, 51, 55, 74, 86, 88], keep := [(0, [1, 2, 3, 4]), (1, [1, 2, 3, 4, 22]), (2, [8]), (3, [1, 2, 3, 4]), (4, [1, 2, 3, 4, 9]), (5, [1, 2, 3, 4, 9, 33]), (6, [1, 2, 3, 4, 9]), (7, [1, 2, 3, 4, 9]), (8, [2, 3, 4, 10]), (9, [2, 3, 4, 10, 54]), (10, [2, 3, 4, 10]), (11, [2, 3, 4, 10, 65]), (12, [8]), (13, [2, 3, 4, 10]), (14, [2, 3, 4, 10, 77]), (15, [2, 3, 4, 10]), (16, [8])] }
def F184 : FA := { n := 34, sh := [.one (.ag [.int .i64 0, .int .i64 0, .str [], .sl [], .sl []]), .one (.ptr 1 0), vl, vl, vi, vl, .one (.ptr 1 0), vi, vb, .one (.ptr 1 2), vs, vb, vl, .one (.ptr 1 2), vs, vl, vl, vl, vi, .one (.ptr 1 3), vl, vi, vb, vi, vi, vl, .one (.ptr 1 3), vl, vi, .one (.cp [.int .i64 0, .int .i64 0, .str [], .sl [], .sl []]), .one (.ag [.int .i64 0, .int .i64 0, .str [], .sl [], .sl []]), vl, vl, vl], obs := [(1, [.int .i64 0, .int .i64 0, .str [], .sl [], .sl []])], tk := [7, 12, 14, 17, 23, 25, 33], dp := [5, 15, 16, 32], keep := [(0, [1]), (1, [1, 3]), (2, [1, 3, 8]), (3, [1, 3, 11]), (4, [3]), (5, [2]), (6, [1, 3, 4]), (7, [1, 3, 4, 22]), (8, [1, 3, 4]), (9, [1, 3, 4]), (10, [2])] }
def F187 : FA := { n := 13, sh := [.one (.ag [.int .i64 0, .int .i64 0, .str [], .sl [], .sl [], .int .i64 0, .int .i64 0, .str [], .sl [], .sl []]), .one (.ptr 1 0), .one (.ptr 2 0), .one (.ptr 3 0), .one (.ptr 1 0), .one (.ag [.int .i64 0, .int .i64 0, .str [], .sl [], .sl []]), .one (.ag [.int .i64 0, .int .i64 0, .str [], .sl [], .sl []]), .one (.ptr 3 0), .one (.ptr 1 5), .one (.ag [.int .i64 0, .int .i64 0, .str [], .sl [], .sl []]), .one (.ag [.int .i64 0, .int .i64 0, .str [], .sl [], .sl []]), .one (.ptr 3 5), .one (.ag [.int .i64 0, .int .i64 0, .str [], .sl [], .sl [], .int .i64 0, .int .i64 0, .str [], .sl [], .sl []])], obs := [(1, [.int .i64 0, .int .i64 0, .str [], .sl [], .sl [], .int .i64 0, .int .i64 0, .str [], .sl [], .sl []]), (2, [.int .i64 0, .int .i64 0, .str [], .sl [], .sl [], .int .i64 0, .int .i64 0, .str [], .sl [], .sl []]), (3, [.int .i64 0, .int .i64 0, .str [], .sl [], .sl [], .int .i64 0, .int .i64 0, .str [], .sl [], .sl []])], tk := [5, 9, 12], keep := [(0, [1, 2]), (1, [1, 2, 3]), (2, [1, 2, 3]), (3, [2, 3]), (4, [2])] }
def F188 : FA := { n := 17, sh := [.one (.ag [.int .i64 0, .int .i64 0, .str [], .sl [], .sl [], .int .i64 0, .int .i64 0, .str [], .sl [], .sl []]), .one (.ag [.int .i64 0, .int .i64 0, .str [], .sl [], .sl [], .int .i64 0, .int .i64 0, .str [], .sl [], .sl []]), .one (.ptr 2 0), .one (.ptr 3 0), vb, .one (.ptr 2 0), .one (.ag [.int .i64 0, .int .i64 0, .str [], .sl [], .sl []]), .one (.ptr 3 0), .one (.ag [.int .i64 0, .int .i64 0, .str [], .sl [], .sl []]), vb, vb, .one (.ptr 2 5), .one (.ag [.int .i64 0, .int .i64 0, .str [], .sl [], .sl []]), .one (.ptr 3 5), .one (.ag [.int .i64 0, .int .i64 0, .str [], .sl [], .sl []]), vb, vb], obs := [(2, [.int .i64 0, .int .i64 0, .str [], .sl [], .sl [], .int .i64 0, .int .i64 0, .str [], .sl [], .sl []]), (3, [.int .i64 0, .int .i64 0, .str [], .sl [], .sl [], .int .i64 0, .int .i64 0, .str [], .sl [], .sl []])], tk := [6, 8, 12, 14], keep := [(0, [2, 3]), (1, [2, 3, 10]), (2, [4]), (3, [16]), (4, [4]), (5, [4])] }
def F192 : FA := { n := 89, sh := [.one (.ptr 1000000 0), .one (.ag [.int .i64 0, .int .i64 0, .str [], .sl [], .sl []]), vi, vj, .one (.ptr 4 0), vj, vb, vj, .one (.ptr 8 0), .one (.ptr 1000000 0), .one (.ptr 1000000 0), .one (.ptr 1000000 0), vi, vi, .one (.ptr 1000000 0), .one (.ptr 1000000 0), vi, vb, vb, .one (.ptr 1000000 0), .one (.ptr 1000000 0), .one (.ptr 1000000 0), vi, vb, vb, vb, .one (.ptr 4 0), vi, vb, vb, vb, .one (.ptr 4 4), vl, vi, vb, vb, vb, .one (.ptr 4 0), vi, .one (.ptr 4 1), vi, .one (.ptr 4 2), vs, .one (.ptr 4 3), vl, vi, vb, vb, vb, .one (.ptr 4 0), vi, vb, vb, .one (.ptr 4 2), vs, vb, vb, .one (.ptr 1000000 0), .one (.ptr 1000000 0), .one (.ptr 1000000 1), vl, .one (.ptr 4 2), vs, vb, .one (.ptr 1000000 0), .one (.ptr 1000000 0), .one (.ptr 1000000 0), .one (.ptr 1000000 1), vl, .one (.ptr 4 2), vs, vl, vl, .one (.ptr 1000000 0), .one (.ptr 1000000 1), .one (.ptr 4 3), vl, vi, vi, vb, .one (.cp [.int .i64 0, .int .i64 0, .str [], .sl [], .sl []]), .one (.ag [.int .i64 0, .int .i64 0, .str [], .sl [], .sl []]), .one (.ptr 1000000 0), .one (.ag [.int .i64 0, .int .i64 0, .str [], .sl [], .sl []]), vi, vi, vb, vb, vi], obs := [(4, [.int .i64 0, .int .i64 0, .str [], .sl [], .sl []]), (8, [.int .i64 0, .int .i64 0, .str [], .sl [], .sl []]), (1000000, [.int .i64 0, .sl []])], tk := [12, 18, 25, 30, 32, 36, 40, 50, 52, 68, 70, 76, 78, 83], dp := [71], keep := [(0, [0, 2, 4]), (1, [0, 2, 4]), (2, [0, 2, 4, 48]), (3, [6]), (4, [0, 2, 4, 56]), (5, [0, 2, 4, 63]), (6, [6]), (7, [0, 2, 4]), (8, [0, 2, 76, 77, 78]), (9, [0, 2, 76, 77, 78, 79]), (10, [0, 2, 8, 76, 77, 78]), (11, [0, 2, 76, 77, 78, 87]), (12, [6]), (13, [0, 2, 76, 77, 78]), (14, [6])] }
def F194 : FA := { n := 36, sh := [vs, vj, vb, vi, vi, vb, vi, vs, vi, vb, vi, vi, vs, vi, vy, vi, vi, vb, vb, vb, vb, vi, vb, vb, vi, vb, vb, vb, vi, vb, vb, vb, vb, vs, vi, vb], obs := [], tk := [10, 18, 20, 23, 27, 28, 33], keep := [(0, [0]), (1, [0, 3]), (2, [0, 3, 9]), (3, [0, 3]), (4, [0, 3, 4]), (5, [0, 3, 4, 5]), (6, [0, 3, 32]), (7, [2]), (8, [2])] }
def F196 : FA := { n := 35, sh := [vs, vj, vb, vi, vi, vs, vi, vb, vi, vi, vs, vi, vy, vb, vb, vb, vi, vb, vb, vs, vi, vy, vb, vb, vb, vs, vi, vy, vb, vb, vb, vb, vs, vi, vb], obs := [], tk := [8, 15, 18, 24, 32], keep := [(0, [0]), (1, [0, 3]), (2, [0, 3, 7]), (3, [0, 3]), (4, [0, 3, 31]), (5, [2]), (6, [2])] }
def F222 : FA := { n := 28, sh := [vl, vi, vj, vj, vi, vi, vi, vl, vi, vi, vi, vb, vi, vl, vi, vb, vi, vi, vi, vl, vi, .one (.cp [.str []]), vs, vi, vi, vi, vb, vi], obs := [], tk := [6, 16, 18, 27], keep := [(0, [0, 1]), (1, [0, 1]), (2, [0, 1, 11]), (3, [4]), (4, [0, 1, 5]), (5, [0, 1, 5, 15]), (6, [0, 1, 5]), (7, [0, 1, 5]), (8, [0, 1, 5, 26]), (9, [4]), (10, [4])] }
def F223 : FA := { n := 36, sh := [vs, vj, vb, vi, vi, vs, vi, vb, vi, vi, vs, vi, vy, vb, vb, vb, vi, vb, vb, vs, vi, vy, vb, vb, vb, vs, vi, vy, vb, vb, vb, vb, vb, vs, vi, vb], obs := [], tk := [8, 15, 18, 24, 33], keep := [(0, [0]), (1, [0, 3]), (2, [0, 3, 7]), (3, [0, 3]), (4, [0, 3, 32]), (5, [2]), (6, [2])] }
def F224 : FA := { n := 10, sh := [vs, vj, vb, vs, vb, vb, vs, vb, vb, vb], obs := [], tk := [5, 6], keep := [(0, [0]), (1, [2])] }
def F225 : FA := { n := 6, sh := [.one (.ag [.int .i64 0, .int .i64 0, .str [], .sl [], .sl []]), .one (.ptr 1 0), vb, .one (.ag [.int .i64 0, .int .i64 0, .str [], .sl [], .sl []]), vi, vb], obs := [(1, [.int .i64 0, .int .i64 0, .str [], .sl [], .sl []])], tk := [3], keep := [(0, [1]), (1, [2])] }
def F226 : FA := { n := 22, sh := [vl, vj, vl, vl, vi, vl, vi, vl, vi, vl, vi, vb, vi, vi, .one (.al (.s 3 0 0) []), vi, vl, vi, .one (.cp [.str []]), vs, .one (.pp (.s 3 0 0) [] 0 0), vl], obs := [], al := [14], tk := [12, 21], keep := [(0, [0]), (1, [0, 3]), (2, [0, 3, 4]), (3, [0, 3, 4, 11]), (4, [0, 3, 4]), (5, [0, 3, 4]), (6, [2])] }
def F227 : FA := { n := 23, sh := [vs, vj, vb, vi, vi, vs, vi, vb, vi, vi, vs, vi, vy, vb, vb, vs, vi, vb, vb, vs, vy, vb, vb], obs := [], tk := [8, 18, 19], keep := [(0, [0]), (1, [0, 3]), (2, [0, 3, 7]), (3, [0, 3]), (4, [0, 3, 14]), (5, [2]), (6, [2])] }
def F228 : FA := { n := 17, sh := [vs, vj, vb, vs, vb, vb, vs, vb, vb, vb, vs, vb, vb, vb, vs, vb, vb], obs := [], tk := [5, 9, 13, 14], keep := [(0, [0]), (1, [2])] }
def F229 : FA := { n := 6, sh := [.one (.ag [.int .i64 0, .int .i64 0, .str [], .sl [], .sl []]), .one (.ptr 1 0), vb, .one (.ptr 3 0), .one (.ag [.int .i64 0, .int .i64 0, .str [], .sl [], .sl []]), vb], obs := [(1, [.int .i64 0, .int .i64 0, .str [], .sl [], .sl []]), (3, [.int .i64 0, .sl []])], tk := [4], keep := [(0, [1]), (1, [1, 3]), (2, [2])] }
def F230 : FA := { n := 23, sh := [vl, vl, vj, vj, vl, vj, vs, vl, vi, vi, vb, .one (.cp [.str []]), vs, vl, vs, vb, vb, vl, vs, vl, vl, vi, vl], obs := [], tk := [7, 9, 17, 18, 22], dp := [19], keep := [(0, [0, 1]), (1, [0, 7, 8, 9]), (2, [0, 7, 8, 9, 10]), (3, [0, 6, 7, 8, 9]), (4, [0, 6, 7, 8, 9, 16]), (5, [0, 7, 8, 9]), (6, [0, 7, 8, 9]), (7, [4])] }
def F231 : FA := { n := 26, sh := [vl, vl, vj, vj, vb, vi, vl, vi, vl, vi, vb, vi, vl, vi, vb, vi, vi, vl, vi, .one (.cp [.str []]), vs, vl, vi, .one (.cp [.str []]), vs, vb], obs := [], tk := [15], keep := [(0, [0, 1]), (1, [0, 1, 10]), (2, [4]), (3, [0, 1, 5]), (4, [0, 1, 5, 14]), (5, [0, 1, 5]), (6, [0, 1, 5, 25]), (7, [4]), (8, [4])] }
def F232 : FA := { n := 134, sh := [.one (.ag [.int .i64 0, .int .i64 0, .str [], .sl [], .sl []]), vb, .one (.ptr 2 0), vj, vb, vi, .one (.ptr 2 3), vl, vi, .one (.ptr 2 0), vi, vb, vb, .one (.ptr 2 4), vl, vi, vb, vb, vb, .one (.ptr 2 0), vi, vb, vb, .one (.ptr 2 1), vi, vb, vb, vb, .one (.ptr 2 0), vi, vb, vb, .one (.ptr 2 1), vi, vb, vb, .one (.ptr 2 2), vs, vb, vb, vb, vi, vb, vb, vb, vb, .one (.ptr 2 2), vs, vb, vb, vi, vb, vb, vb, vb, .one (.ptr 2 2), vs, vb, vb, vi, vb, vb, vb, vb, vb, .one (.ptr 2 2), vs, vb, vb, vb, vb, vb, vb, .one (.ptr 2 2), vs, vb, vb, vi, vb, vb, vb, vb, .one (.ptr 2 2), vs, vb, vb, vi, vb, vb, vb, vb, vb, vb, vb, .one (.ptr 2 2), vs, vb, vb, vb, vi, vb, vb, vb, vb, vb, vb, vb, .one (.ptr 2 2), vs, vb, vb, vb, vi, vb, vb, vb, vb, vb, vb, vb, .one (.ptr 2 2), vs, vb, vb, vb, vi, vb, vb, vb, .one (.ptr 2 4), vl, vi, vb, vb], obs := [(2, [.int .i64 0, .int .i64 0, .str [], .sl [], .sl []])], tk := [7, 12, 18, 22, 29, 33, 35, 37, 40, 41, 47, 49, 50, 58, 59, 62, 63, 64, 66, 74, 76, 77, 83, 85, 86, 91, 93, 95, 98, 99, 104, 106, 108, 111, 112, 117, 119, 121, 124, 125, 128, 130], keep := [(0, [1, 2]), (1, [1, 2, 5]), (2, [1, 2, 5, 27]), (3, [4]), (4, [1, 2, 5, 29]), (5, [1, 2, 5, 29, 30]), (6, [4]), (7, [1, 2, 5, 29, 44]), (8, [4]), (9, [1, 2, 5, 29, 53]), (10, [4]), (11, [1, 2, 5, 29, 70]), (12, [1, 2, 5, 29, 70]), (13, [4]), (14, [1, 2, 5, 29, 80]), (15, [4]), (16, [1, 2, 5, 29, 89]), (17, [4]), (18, [1, 2, 5, 29, 102]), (19, [4]), (20, [1, 2, 5, 115]), (21, [4]), (22, [4])] }
def F234 : FA := { n := 107, sh := [vi, vi, vs, vi, vj, vj, vj, vj, vb, vi, vb, vb, vi, vb, vb, vs, vb, vb, vb, vi, vb, vb, vb, vb, vi, vb, vb, vs, vb, vb, vb, vi, vb, vb, vb, vb, vi, vb, vb, vs, vb, vb, vb, vi, vb, vb, vb, vb, vb, vi, vb, vb, vs, vb, vb, vb, vi, vb, vb, vb, vb, vi, vb, vb, vs, vb, vb, vb, vi, vb, vb, vb, vb, vi, vb, vb, vs, vb, vb, vb, vi, vb, vb, vb, vb, vi, vb, vb, vs, vb, vb, vb, vi, vb, vb, vb, vb, vi, vb, vb, vs, vb, vb, vb, vi, vb, vb], obs := [], tk := [9, 12, 14, 15, 18, 19, 24, 26, 27, 30, 31, 36, 38, 39, 42, 43, 49, 51, 52, 55, 56, 61, 63, 64, 67, 68, 73, 75, 76, 79, 80, 85, 87, 88, 91, 92, 97, 99, 100, 103, 104], keep := [(0, [0, 1, 2, 3]), (1, [1, 2, 3, 9]), (2, [1, 2, 3, 9, 10]), (3, [8]), (4, [1, 2, 3, 9, 22]), (5, [8]), (6, [1, 2, 3, 9, 34]), (7, [8]), (8, [1, 2, 3, 9, 46]), (9, [1, 2, 3, 9, 46]), (10, [8]), (11, [1, 2, 3, 9, 59]), (12, [8]), (13, [1, 2, 3, 9, 71]), (14, [8]), (15, [1, 2, 3, 9, 83]), (16, [8]), (17, [1, 2, 3, 95]), (18, [8]), (19, [8])] }
def F236 : FA := { n := 9, sh := [vy, vj, vb, vy, vb, vb, vy, vb, vb], obs := [], tk := [5, 6], keep := [(0, [0]), (1, [2])] }
def F237 : FA := { n := 9, sh := [vy, vj, vb, vy, vb, vb, vy, vb, vb], obs := [], tk := [5, 6], keep := [(0, [0]), (1, [2])] }
def F253 : FA := { n := 10, sh := [vy, vj, vb, vy, vi, vb, vb, vy, vb, vb], obs := [], tk := [6, 7], keep := [(0, [0]), (1, [2])] }
def F254 : FA := { n := 6, sh := [vy, vj, vb, vy, vi, vb], obs := [], tk := [3], keep := [(0, [0]), (1, [2])] }
def F255 : FA := { n := 6, sh := [vy, vj, vb, vy, vi, vb], obs := [], tk := [3], keep := [(0, [0]), (1, [2])] }
def F256 : FA := { n := 13, sh := [vs, vj, vb, vs, vb, vb, vs, vb, vb, vb, vs, vb, vb], obs := [], tk := [5, 9, 10], keep := [(0, [0]), (1, [2])] }
def F257 : FA := { n := 13, sh := [vy, vj, vb, vy, vb, vb, vy, vb, vb, vb, vy, vb, vb], obs := [], tk := [5, 9, 10], keep := [(0, [0]), (1, [2])] }
def F258 : FA := { n := 13, sh := [vy, vj, vb, vy, vb, vb, vy, vb, vb, vb, vy, vb, vb], obs := [], tk := [5, 9, 10], keep := [(0, [0]), (1, [2])] }
def F259 : FA := { n := 105, sh := [.one (.ptr 1000000 0), .one (.ag [.int .i64 0, .int .i64 0, .str [], .sl [], .sl []]), vi, vj, .one (.ptr 4 0), vj, vb, vj, .one (.ptr 8 0), vj, .one (.ptr 10 0), .one (.ptr 1000000 0), .one (.ptr 1000000 0), .one (.ptr 1000000 0), vi, vi, .one (.ptr 1000000 0), .one (.ptr 1000000 0), vi, vb, vb, .one (.ptr 1000000 0), .one (.ptr 1000000 0), .one (.ptr 1000000 0), vi, vb, vb, vb, .one (.ptr 4 0), vi, .one (.ptr 4 1), vi, .one (.ptr 4 2), vs, .one (.ptr 4 3), vl, vi, vb, vb, vb, vb, .one (.ptr 4 0), vi, vb, vb, .one (.ptr 4 2), vs, vb, vb, vb, .one (.ptr 4 0), vi, vb, .one (.ptr 4 4), vl, vi, vb, vb, vb, .one (.ptr 4 4), vl, vi, vb, vb, .one (.ptr 4 3), vl, vi, vi, vb, .one (.cp [.int .i64 0, .int .i64 0, .str [], .sl [], .sl []]), .one (.ag [.int .i64 0, .int .i64 0, .str [], .sl [], .sl []]), .one (.ptr 1000000 0), .one (.ag [.int .i64 0, .int .i64 0, .str [], .sl [], .sl []]), vi, vi, vb, vb, vi, .one (.ptr 4 4), vl, vi, vi, vb, .one (.cp [.int .i64 0, .int .i64 0, .str [], .sl [], .sl [], .int .i64 0, .int .i64 0, .str [], .sl [], .sl []]), .one (.ag [.int .i64 0, .int .i64 0, .str [], .sl [], .sl [], .int .i64 0, .int .i64 0, .str [], .sl [], .sl []]), .one (.ptr 1000000 0), .one (.ptr 1000000 0), .one (.ptr 1000000 1), .one (.ptr 1000000 0), .one (.ptr 10 0), .one (.ag [.int .i64 0, .int .i64 0, .str [], .sl [], .sl []]), vi, vi, vb, vb, vb, .one (.ptr 1000000 0), .one (.ptr 10 5), .one (.ag [.int .i64 0, .int .i64 0, .str [], .sl [], .sl []]), vi, vi, vb, vb, vb, vi], obs := [(4, [.int .i64 0, .int .i64 0, .str [], .sl [], .sl []]), (8, [.int .i64 0, .int .i64 0, .str [], .sl [], .sl []]), (10, [.int .i64 0, .int .i64 0, .str [], .sl [], .sl [], .int .i64 0, .int .i64 0, .str [], .sl [], .sl []]), (1000000, [.int .i64 0, .sl []])], tk := [14, 20, 27, 31, 40, 44, 46, 51, 58, 65, 67, 72, 79, 81, 90, 95, 98], keep := [(0, [0, 2, 4]), (1, [0, 2, 4]), (2, [0, 2, 4, 49]), (3, [6]), (4, [0, 2, 4, 63]), (5, [6]), (6, [0, 2, 4, 65, 66, 67]), (7, [0, 2, 4, 65, 66, 67, 68]), (8, [0, 2, 4, 8, 65, 66, 67]), (9, [0, 2, 4, 65, 66, 67, 76]), (10, [6]), (11, [0, 2, 4, 65, 66, 67]), (12, [0, 2, 79, 80, 81]), (13, [0, 2, 79, 80, 81, 82]), (14, [0, 2, 10, 79, 80, 81]), (15, [0, 2, 10, 79, 80, 81]), (16, [0, 2, 79, 80, 81, 103]), (17, [6]), (18, [0, 2, 79, 80, 81]), (19, [6])] }
def F260 : FA := { n := 21, sh := [vs, vj, vb, vs, vb, vb, vs, vb, vb, vb, vs, vb, vb, vb, vs, vb, vb, vb, vs, vb, vb], obs := [], tk := [5, 9, 13, 17, 18], keep := [(0, [0]), (1, [2])] }
def F261 : FA := { n := 10, sh := [vs, vj, vb, vs, vb, vb, vb, vb, vb, vb], obs := [], tk := [3], keep := [(0, [0]), (1, [3]), (2, [3, 4]), (3, [3, 4]), (4, [3, 4]), (5, [3, 4]), (6, [4]), (7, [2]), (8, [2])] }
def An : FuncId → FA
  | 5 => F5
  | 26 => F26
  | 27 => F27
  | 28 => F28
  | 29 => F29
  | 30 => F30
  | 31 => F31
  | 34 => F34
  | 39 => F39
  | 59 => F59
  | 69 => F69
  | 72 => F72
  | 75 => F75
  | 77 => F77
  | 93 => F93
  | 94 => F94
  | 95 => F95
  | 96 => F96
  | 97 => F97
  | 98 => F98
  | 99 => F99
  | 100 => F100
  | 101 => F101
  | 102 => F102
  | 103 => F103
  | 104 => F104
  | 105 => F105
  | 110 => F110
  | 111 => F111
  | 114 => F114
  | 115 => F115
  | 156 => F156
  | 170 => F170
  | 171 => F171
  | 172 => F172
  | 173 => F173
  | 174 => F174
  | 175 => F175
  | 176 => F176
  | 177 => F177
  | 178 => F178
  | 179 => F179
  | 180 => F180
  | 181 => F181
  | 183 => F183
  | 184 => F184
  | 187 => F187
  | 188 => F188
  | 192 => F192
  | 194 => F194
  | 196 => F196
  | 222 => F222
  | 223 => F223
  | 224 => F224
  | 225 => F225
  | 226 => F226
  | 227 => F227
  | 228 => F228
  | 229 => F229
  | 230 => F230
  | 231 => F231
  | 232 => F232
  | 234 => F234
  | 236 => F236
  | 237 => F237
  | 253 => F253
  | 254 => F254
  | 255 => F255
  | 256 => F256
  | 257 => F257
  | 258 => F258
  | 259 => F259
  | 260 => F260
  | 261 => F261
  | _ => { n := 0, sh := [], obs := [] }
def Sgs : FuncId → List Sg
  | 5 => [{ bi := ⟨[(0, [[.F]])], []⟩, bo := ⟨[(0, [[.S]])], []⟩, np := 1, ext := false }]
  | 26 => [{ bi := ⟨[(0, [[.F]]), (1, [[.S]])], []⟩, bo := ⟨[(0, [[.S]])], []⟩, np := 2, ext := false }]
  | 27 => [{ bi := ⟨[(0, [[.F]])], []⟩, bo := ⟨[(0, [[.S]])], []⟩, np := 1, ext := false }]
  | 28 => [{ bi := ⟨[(0, [[.F]])], []⟩, bo := ⟨[(0, [[.U 7]])], []⟩, np := 1, ext := false }]
  | 29 => [{ bi := ⟨[(0, [[.F]])], []⟩, bo := ⟨[(0, [[.S]])], []⟩, np := 1, ext := false }]
  | 30 => [{ bi := ⟨[(0, [[.F]]), (1, [[.F]])], []⟩, bo := ⟨[(0, [[.S]])], []⟩, np := 2, ext := false }]
  | 31 => [{ bi := ⟨[(0, [[.S, .S, .S, .F, .F]]), (1, [[.S]])], []⟩, bo := ⟨[(0, [[.S]])], []⟩, np := 2, ext := false }]
  | 34 => [{ bi := ⟨[(0, [[.S, .S, .S, .F, .F]])], []⟩, bo := ⟨[(0, [[.S, .S, .S, .U 5, .U 10]])], []⟩, np := 1, ext := false }]
  | 39 => [{ bi := ⟨[(0, [[.S, .S, .S, .F, .F]]), (1, [[.S, .S, .S, .F, .F]])], []⟩, bo := ⟨[(0, [[.S]])], []⟩, np := 2, ext := false }]
  | 59 => [{ bi := ⟨[(0, [[.S, .S, .S, .F, .F]])], []⟩, bo := ⟨[(0, [[.U 1]])], []⟩, np := 1, ext := false }]
  | 69 => [{ bi := ⟨[(0, [[.S]]), (1, [[.S]]), (2, [[.S]])], []⟩, bo := ⟨[(0, [[.S]])], []⟩, np := 3, ext := false }]
  | 72 => [{ bi := ⟨[(0, [[.F]])], []⟩, bo := ⟨[(0, [[.S]])], []⟩, np := 1, ext := false }]
  | 75 => [{ bi := ⟨[(0, [[.S]]), (1, [[.S]]), (2, [[.S]])], []⟩, bo := ⟨[(0, [[.S]])], []⟩, np := 3, ext := false }]
  | 77 => [{ bi := ⟨[(0, [[.F]]), (1, [[.S]])], []⟩, bo := ⟨[(0, [[.S]])], []⟩, np := 2, ext := false }]
  | 93 => [{ bi := ⟨[(0, [[.F]]), (1, [[.S]])], []⟩, bo := ⟨[(0, [[.S]])], []⟩, np := 2, ext := false }]
  | 94 => [{ bi := ⟨[(0, [[.F]])], []⟩, bo := ⟨[(0, [[.S]])], []⟩, np := 1, ext := false }]
  | 95 => [{ bi := ⟨[(0, [[.S, .S, .S, .F, .F]])], []⟩, bo := ⟨[(0, [[.A 1]])], []⟩, np := 1 }]
  | 96 => [{ bi := ⟨[(0, [[.F]]), (1, [[.S]])], []⟩, bo := ⟨[(0, [[.S]])], []⟩, np := 2, ext := false }]
  | 97 => [{ bi := ⟨[(0, [[.F]]), (1, [[.S]])], []⟩, bo := ⟨[(0, [[.S]])], []⟩, np := 2, ext := false }]
  | 98 => [{ bi := ⟨[(0, [[.F]]), (1, [[.S, .S, .S, .F, .F]])], []⟩, bo := ⟨[(0, [[.S]])], []⟩, np := 2, ext := false }]
  | 99 => [{ bi := ⟨[(0, [[.F]])], []⟩, bo := ⟨[(0, [[.U 7]])], []⟩, np := 1, ext := false }]
  | 100 => [{ bi := ⟨[(0, [[.F]])], []⟩, bo := ⟨[(0, [[.S]])], []⟩, np := 1, ext := false }]
  | 101 => [{ bi := ⟨[(0, [[.F]]), (1, [[.S]])], []⟩, bo := ⟨[(0, [[.S]])], []⟩, np := 2, ext := false }]
  | 102 => [{ bi := ⟨[(0, [[.F]]), (1, [[.S, .F, .S, .S, .S, .F, .F]])], []⟩, bo := ⟨[(0, [[.S]])], []⟩, np := 2, ext := false }]
  | 103 => [{ bi := ⟨[(0, [[.F]]), (1, [[.F]])], []⟩, bo := ⟨[(0, [[.S]])], []⟩, np := 2, ext := false }]
  | 104 => [{ bi := ⟨[(0, [[.F]]), (1, [[.S]])], []⟩, bo := ⟨[(0, [[.S]])], []⟩, np := 2, ext := false }]
  | 105 => [{ bi := ⟨[(0, [[.F]]), (1, [[.S]])], []⟩, bo := ⟨[(0, [[.S]])], []⟩, np := 2, ext := false }]
  | 110 => [{ bi := ⟨[(0, [[.F]])], []⟩, bo := ⟨[(0, [[.U 5]])], []⟩, np := 1, ext := false }]
  | 111 => [{ bi := ⟨[(0, [[.F]])], []⟩, bo := ⟨[(0, [[.U 10]])], []⟩, np := 1, ext := false }]
  | 114 => [{ bi := ⟨[(0, [[.F]]), (1, [[.F]])], []⟩, bo := ⟨[(0, [[.S]])], []⟩, np := 2, ext := false }]
  | 115 => [{ bi := ⟨[(0, [[.F]]), (1, [[.F]])], []⟩, bo := ⟨[(0, [[.S]])], []⟩, np := 2, ext := false }]
  | 156 => [{ bi := ⟨[(0, [[.F]]), (1, [[.S]])], []⟩, bo := ⟨[(0, [[.S]])], []⟩, np := 2, ext := false }]
  | 170 => [{ bi := ⟨[(0, [[.S, .F, .S, .S, .S, .F, .F]]), (1, [[.S]])], []⟩, bo := ⟨[(0, [[.S]])], []⟩, np := 2, ext := false }]
  | 171 => [{ bi := ⟨[(0, [[.S, .F, .S, .S, .S, .F, .F]])], []⟩, bo := ⟨[(0, [[.S]])], []⟩, np := 1, ext := false }]
  | 172 => [{ bi := ⟨[(0, [[.A 1]]), (1, [[.F]]), (2, [[.S, .S, .S, .F, .F]])], []⟩, bo := ⟨[(0, [[.A 1]])], []⟩, np := 3 }]
  | 173 => [{ bi := ⟨[(0, [[.S, .F, .S, .S, .S, .F, .F]])], []⟩, bo := ⟨[(0, [[.S, .U 1, .S, .S, .S, .U 5, .U 10]])], []⟩, np := 1, ext := false }]
  | 174 => [{ bi := ⟨[(0, [[.S, .F, .S, .S, .S, .F, .F]])], []⟩, bo := ⟨[(0, [[.S]])], []⟩, np := 1, ext := false }]
  | 175 => [{ bi := ⟨[(0, [[.F]]), (1, [[.S]])], [(1000000, [.S])]⟩, bo := ⟨[(0, [[.S]])], [(1000000, [.S])]⟩, np := 2, ext := false, no := 1 }]
  | 176 => [{ bi := ⟨[(0, [[.S, .F, .S, .S, .S, .F, .F]]), (1, [[.S]])], [(1000000, [.S])]⟩, bo := ⟨[(0, [[.S]])], [(1000000, [.S])]⟩, np := 2, ext := false, no := 1 }]
  | 177 => [{ bi := ⟨[(0, [[.S, .S, .S, .F, .F]])], []⟩, bo := ⟨[(0, [[.A 1]])], []⟩, np := 1 }]
  | 178 => [{ bi := ⟨[(0, [[.S, .S, .S, .F, .F]]), (1, [[.S]])], [(1000000, [.F]), (1000001, [.S])]⟩, bo := ⟨[(0, [])], [(1000000, [.F]), (1000001, [.S])]⟩, np := 2, no := 2 }]
  | 179 => [{ bi := ⟨[(0, [[.S, .S, .S, .F, .F]]), (1, [[.S]]), (2, [[.S]])], [(1000000, [.F]), (1000001, [.S])]⟩, bo := ⟨[(0, [])], [(1000000, [.F]), (1000001, [.S])]⟩, np := 3, no := 2 }]
  | 180 => [{ bi := ⟨[(0, [[.S, .F, .S, .S, .S, .F, .F]]), (1, [[.S, .F, .S, .S, .S, .F, .F]])], []⟩, bo := ⟨[(0, [[.S]])], []⟩, np := 2, ext := false }]
  | 181 => [{ bi := ⟨[(0, [[.S, .S, .S, .F, .F, .S, .S, .S, .F, .F]]), (1, [[.S]])], []⟩, bo := ⟨[(0, [[.S]])], []⟩, np := 2, ext := false }]
  | 183 => [{ bi := ⟨[(0, [[.S, .S, .S, .F, .F]]), (1, [[.S]]), (2, [[.S]]), (3, [[.S]])], []⟩, bo := ⟨[(0, [[.S]])], []⟩, np := 4, ext := false }]
  | 184 => [{ bi := ⟨[(0, [[.S, .S, .S, .F, .F]])], []⟩, bo := ⟨[(0, [[.U 1]])], []⟩, np := 1, ext := false }]
  | 187 => [{ bi := ⟨[(0, [[.S, .S, .S, .F, .F, .S, .S, .S, .F, .F]])], []⟩, bo := ⟨[(0, [[.S, .S, .S, .U 5, .U 10, .S, .S, .S, .U 5, .U 10]])], []⟩, np := 1, ext := false }]
  | 188 => [{ bi := ⟨[(0, [[.S, .S, .S, .F, .F, .S, .S, .S, .F, .F]]), (1, [[.S, .S, .S, .F, .F, .S, .S, .S, .F, .F]])], []⟩, bo := ⟨[(0, [[.S]])], []⟩, np := 2, ext := false }]
  | 192 => [{ bi := ⟨[(0, [[.S]]), (1, [[.S, .S, .S, .F, .F]]), (2, [[.S]])], [(1000000, [.S, .A 1])]⟩, bo := ⟨[(0, [[.S]])], [(1000000, [.S, .A 1])]⟩, np := 3, no := 1 }]
  | 194 => [{ bi := ⟨[(0, [[.S]])], []⟩, bo := ⟨[(0, [[.S]])], []⟩, np := 1, ext := false }]
  | 196 => [{ bi := ⟨[(0, [[.S]])], []⟩, bo := ⟨[(0, [[.S]])], []⟩, np := 1, ext := false }]
  | 222 => [{ bi := ⟨[(0, [[.F]]), (1, [[.S]])], []⟩, bo := ⟨[(0, [[.S]])], []⟩, np := 2, ext := false }]
  | 223 => [{ bi := ⟨[(0, [[.S]])], []⟩, bo := ⟨[(0, [[.S]])], []⟩, np := 1, ext := false }]
  | 224 => [{ bi := ⟨[(0, [[.S]])], []⟩, bo := ⟨[(0, [[.S]])], []⟩, np := 1, ext := false }]
  | 225 => [{ bi := ⟨[(0, [[.S, .S, .S, .F, .F]])], []⟩, bo := ⟨[(0, [[.S]])], []⟩, np := 1, ext := false }]
  | 226 => [{ bi := ⟨[(0, [[.F]])], []⟩, bo := ⟨[(0, [[.U 1]])], []⟩, np := 1, ext := false }]
  | 227 => [{ bi := ⟨[(0, [[.S]])], []⟩, bo := ⟨[(0, [[.S]])], []⟩, np := 1, ext := false }]
  | 228 => [{ bi := ⟨[(0, [[.S]])], []⟩, bo := ⟨[(0, [[.S]])], []⟩, np := 1, ext := false }]
  | 229 => [{ bi := ⟨[(0, [[.S, .S, .S, .F, .F]])], []⟩, bo := ⟨[(0, [[.S]])], []⟩, np := 1, ext := false }]
  | 230 => [{ bi := ⟨[(0, [[.A 1]]), (1, [[.F]])], []⟩, bo := ⟨[(0, [[.A 1]])], []⟩, np := 2 }]
  | 231 => [{ bi := ⟨[(0, [[.F]]), (1, [[.F]])], []⟩, bo := ⟨[(0, [[.S]])], []⟩, np := 2, ext := false }]
  | 232 => [{ bi := ⟨[(0, [[.S, .S, .S, .F, .F]]), (1, [[.S]])], []⟩, bo := ⟨[(0, [[.S]])], []⟩, np := 2, ext := false }]
  | 234 => [{ bi := ⟨[(0, [[.S]]), (1, [[.S]]), (2, [[.S]]), (3, [[.S]])], []⟩, bo := ⟨[(0, [[.S]])], []⟩, np := 4, ext := false }]
  | 236 => [{ bi := ⟨[(0, [[.S]])], []⟩, bo := ⟨[(0, [[.S]])], []⟩, np := 1, ext := false }]
  | 237 => [{ bi := ⟨[(0, [[.S]])], []⟩, bo := ⟨[(0, [[.S]])], []⟩, np := 1, ext := false }]
  | 253 => [{ bi := ⟨[(0, [[.S]])], []⟩, bo := ⟨[(0, [[.S]])], []⟩, np := 1, ext := false }]
  | 254 => [{ bi := ⟨[(0, [[.S]])], []⟩, bo := ⟨[(0, [[.S]])], []⟩, np := 1, ext := false }]
  | 255 => [{ bi := ⟨[(0, [[.S]])], []⟩, bo := ⟨[(0, [[.S]])], []⟩, np := 1, ext := false }]
  | 256 => [{ bi := ⟨[(0, [[.S]])], []⟩, bo := ⟨[(0, [[.S]])], []⟩, np := 1, ext := false }]
  | 257 => [{ bi := ⟨[(0, [[.S]])], []⟩, bo := ⟨[(0, [[.S]])], []⟩, np := 1, ext := false }]
  | 258 => [{ bi := ⟨[(0, [[.S]])], []⟩, bo := ⟨[(0, [[.S]])], []⟩, np := 1, ext := false }]
  | 259 => [{ bi := ⟨[(0, [[.S]]), (1, [[.S, .S, .S, .F, .F]]), (2, [[.S]])], [(1000000, [.S, .A 1])]⟩, bo := ⟨[(0, [[.S]])], [(1000000, [.S, .A 1])]⟩, np := 3, no := 1 }]
  | 260 => [{ bi := ⟨[(0, [[.S]])], []⟩, bo := ⟨[(0, [[.S]])], []⟩, np := 1, ext := false }]
  | 261 => [{ bi := ⟨[(0, [[.S]])], []⟩, bo := ⟨[(0, [[.S]])], []⟩, np := 1, ext := false }]
  | _ => []
end Go.Own
