/- What is told of the functions: shapes and kinds. No conditions. -/
import Derived.Test.YticdjfieofjcaaaProg
import Derived.KernelRfl
import Derived.Test.YticdjfieofjcaaaOwn2
set_option linter.unusedVariables false
set_option linter.unusedSimpArgs false
set_option linter.unnecessarySimpa false
namespace Go.Own
open Go Go.Proofs
def τ : TypeId → Option TI
  | 3 => some { size := 1, bytes := 8, zero := [.int .i64 0], agg := false, kind := .int .i64 }
  | 4 => some { size := 1, bytes := 1, zero := [.bool false], agg := false, kind := .bool }
  | 5 => some { size := 1, bytes := 1, zero := [.int .u8 0], agg := false, kind := .int .u8 }
  | 9 => some { size := 1, bytes := 16, zero := [.str []], agg := false, kind := .str }
  | 22 => some { size := 1, bytes := 24, zero := [.sl []], agg := false, kind := .sl 3 }
  | 31 => some { size := 1, bytes := 24, zero := [.sl []], agg := false, kind := .sl 33 }
  | 33 => some { size := 4, bytes := 56, zero := [.int .i64 0, .int .i64 0, .str [], .sl []], agg := true, kind := .struct [(0, 1, false), (1, 1, false), (2, 1, false), (3, 1, false)] }
  | 41 => some { size := 1, bytes := 24, zero := [.sl []], agg := false, kind := .sl 43 }
  | 43 => some { size := 4, bytes := 56, zero := [.int .i64 0, .int .i64 0, .str [], .sl []], agg := true, kind := .struct [(0, 1, false), (1, 1, false), (2, 1, false), (3, 1, false)] }
  | 70 => some { size := 1, bytes := 24, zero := [.sl []], agg := false, kind := .sl 89 }
  | 72 => some { size := 7, bytes := 104, zero := [.int .i64 0, .int .i64 0, .int .i64 0, .sl [], .sl [], .sl [], .bool false], agg := true, kind := .struct [(0, 1, false), (1, 1, false), (2, 1, false), (3, 1, false), (4, 1, false), (5, 1, false), (6, 1, false)] }
  | 77 => some { size := 1, bytes := 24, zero := [.sl []], agg := false, kind := .sl 155 }
  | 79 => some { size := 7, bytes := 104, zero := [.int .i64 0, .int .i64 0, .int .i64 0, .sl [], .sl [], .sl [], .bool false], agg := true, kind := .struct [(0, 1, false), (1, 1, false), (2, 1, false), (3, 1, false), (4, 1, false), (5, 1, false), (6, 1, false)] }
  | 89 => some { size := 7, bytes := 96, zero := [.str [], .str [], .int .i64 0, .int .i64 0, .str [], .sl [], .int .i64 0], agg := true, kind := .struct [(0, 1, false), (1, 1, false), (2, 4, true), (6, 1, false)] }
  | 155 => some { size := 7, bytes := 96, zero := [.str [], .str [], .int .i64 0, .int .i64 0, .str [], .sl [], .int .i64 0], agg := true, kind := .struct [(0, 1, false), (1, 1, false), (2, 4, true), (6, 1, false)] }
  | _ => none
set_option maxRecDepth 100000 in
theorem tables : Tables Try.prog τ := by
  intro t i h
  unfold τ at h
  split at h <;> (try cases h)
  · exact ⟨_, _, _, rfl, rfl, rfl, rfl, rfl, rfl, rfl, by decide, rfl, rfl⟩
  · exact ⟨_, _, _, rfl, rfl, rfl, rfl, rfl, rfl, rfl, by decide, rfl, rfl⟩
  · exact ⟨_, _, _, rfl, rfl, rfl, rfl, rfl, rfl, rfl, by decide, rfl, rfl⟩
  · exact ⟨_, _, _, rfl, rfl, rfl, rfl, rfl, rfl, rfl, by decide, rfl, rfl⟩
  · exact ⟨_, _, _, rfl, rfl, rfl, rfl, rfl, rfl, rfl, by decide, rfl, rfl⟩
  · exact ⟨_, _, _, rfl, rfl, rfl, rfl, rfl, rfl, rfl, by decide, rfl, rfl⟩
  · refine ⟨_, _, _, rfl, rfl, rfl, rfl, rfl, rfl, rfl, by decide, rfl, _, rfl, rfl, fun j f hf => ?_⟩
    match j with
    | 0 => simp at hf; subst hf; exact ⟨_, _, rfl, rfl, rfl, rfl, by decide, rfl, rfl⟩
    | 1 => simp at hf; subst hf; exact ⟨_, _, rfl, rfl, rfl, rfl, by decide, rfl, rfl⟩
    | 2 => simp at hf; subst hf; exact ⟨_, _, rfl, rfl, rfl, rfl, by decide, rfl, rfl⟩
    | 3 => simp at hf; subst hf; exact ⟨_, _, rfl, rfl, rfl, rfl, by decide, rfl, rfl⟩
    | j + 4 => simp at hf
  · exact ⟨_, _, _, rfl, rfl, rfl, rfl, rfl, rfl, rfl, by decide, rfl, rfl⟩
  · refine ⟨_, _, _, rfl, rfl, rfl, rfl, rfl, rfl, rfl, by decide, rfl, _, rfl, rfl, fun j f hf => ?_⟩
    match j with
    | 0 => simp at hf; subst hf; exact ⟨_, _, rfl, rfl, rfl, rfl, by decide, rfl, rfl⟩
    | 1 => simp at hf; subst hf; exact ⟨_, _, rfl, rfl, rfl, rfl, by decide, rfl, rfl⟩
    | 2 => simp at hf; subst hf; exact ⟨_, _, rfl, rfl, rfl, rfl, by decide, rfl, rfl⟩
    | 3 => simp at hf; subst hf; exact ⟨_, _, rfl, rfl, rfl, rfl, by decide, rfl, rfl⟩
    | j + 4 => simp at hf
  · exact ⟨_, _, _, rfl, rfl, rfl, rfl, rfl, rfl, rfl, by decide, rfl, rfl⟩
  · refine ⟨_, _, _, rfl, rfl, rfl, rfl, rfl, rfl, rfl, by decide, rfl, _, rfl, rfl, fun j f hf => ?_⟩
    match j with
    | 0 => simp at hf; subst hf; exact ⟨_, _, rfl, rfl, rfl, rfl, by decide, rfl, rfl⟩
    | 1 => simp at hf; subst hf; exact ⟨_, _, rfl, rfl, rfl, rfl, by decide, rfl, rfl⟩
    | 2 => simp at hf; subst hf; exact ⟨_, _, rfl, rfl, rfl, rfl, by decide, rfl, rfl⟩
    | 3 => simp at hf; subst hf; exact ⟨_, _, rfl, rfl, rfl, rfl, by decide, rfl, rfl⟩
    | 4 => simp at hf; subst hf; exact ⟨_, _, rfl, rfl, rfl, rfl, by decide, rfl, rfl⟩
    | 5 => simp at hf; subst hf; exact ⟨_, _, rfl, rfl, rfl, rfl, by decide, rfl, rfl⟩
    | 6 => simp at hf; subst hf; exact ⟨_, _, rfl, rfl, rfl, rfl, by decide, rfl, rfl⟩
    | j + 7 => simp at hf
  · exact ⟨_, _, _, rfl, rfl, rfl, rfl, rfl, rfl, rfl, by decide, rfl, rfl⟩
  · refine ⟨_, _, _, rfl, rfl, rfl, rfl, rfl, rfl, rfl, by decide, rfl, _, rfl, rfl, fun j f hf => ?_⟩
    match j with
    | 0 => simp at hf; subst hf; exact ⟨_, _, rfl, rfl, rfl, rfl, by decide, rfl, rfl⟩
    | 1 => simp at hf; subst hf; exact ⟨_, _, rfl, rfl, rfl, rfl, by decide, rfl, rfl⟩
    | 2 => simp at hf; subst hf; exact ⟨_, _, rfl, rfl, rfl, rfl, by decide, rfl, rfl⟩
    | 3 => simp at hf; subst hf; exact ⟨_, _, rfl, rfl, rfl, rfl, by decide, rfl, rfl⟩
    | 4 => simp at hf; subst hf; exact ⟨_, _, rfl, rfl, rfl, rfl, by decide, rfl, rfl⟩
    | 5 => simp at hf; subst hf; exact ⟨_, _, rfl, rfl, rfl, rfl, by decide, rfl, rfl⟩
    | 6 => simp at hf; subst hf; exact ⟨_, _, rfl, rfl, rfl, rfl, by decide, rfl, rfl⟩
    | j + 7 => simp at hf
  · refine ⟨_, _, _, rfl, rfl, rfl, rfl, rfl, rfl, rfl, by decide, rfl, _, rfl, rfl, fun j f hf => ?_⟩
    match j with
    | 0 => simp at hf; subst hf; exact ⟨_, _, rfl, rfl, rfl, rfl, by decide, rfl, rfl⟩
    | 1 => simp at hf; subst hf; exact ⟨_, _, rfl, rfl, rfl, rfl, by decide, rfl, rfl⟩
    | 2 => simp at hf; subst hf; exact ⟨_, _, rfl, rfl, rfl, rfl, by decide, rfl, rfl⟩
    | 3 => simp at hf; subst hf; exact ⟨_, _, rfl, rfl, rfl, rfl, by decide, rfl, rfl⟩
    | j + 4 => simp at hf
  · refine ⟨_, _, _, rfl, rfl, rfl, rfl, rfl, rfl, rfl, by decide, rfl, _, rfl, rfl, fun j f hf => ?_⟩
    match j with
    | 0 => simp at hf; subst hf; exact ⟨_, _, rfl, rfl, rfl, rfl, by decide, rfl, rfl⟩
    | 1 => simp at hf; subst hf; exact ⟨_, _, rfl, rfl, rfl, rfl, by decide, rfl, rfl⟩
    | 2 => simp at hf; subst hf; exact ⟨_, _, rfl, rfl, rfl, rfl, by decide, rfl, rfl⟩
    | 3 => simp at hf; subst hf; exact ⟨_, _, rfl, rfl, rfl, rfl, by decide, rfl, rfl⟩
    | j + 4 => simp at hf
abbrev vi : V := .one (.c (.int .i64 0))
abbrev vy : V := .one (.c (.int .u8 0))
abbrev vb : V := .one (.c (.bool false))
abbrev vl : V := .one (.c (.sl []))
abbrev vs : V := .one (.c (.str []))
abbrev vj : V := .one .junk

def F11 : FA := { n := 27, sh := [.one (.ag [.int .i64 0, .int .i64 0, .int .i64 0, .sl [], .sl [], .sl [], .bool false]), .one (.ptr 1 0), vb, vi, vb, .one (.ptr 5 0), vb, .one (.ag [.int .i64 0, .int .i64 0, .int .i64 0, .sl [], .sl [], .sl [], .bool false]), vi, vi, vi, vb, .one (.ag [.int .i64 0, .int .i64 0, .int .i64 0, .sl [], .sl [], .sl [], .bool false]), .one (.ag [.int .i64 0, .int .i64 0, .int .i64 0, .sl [], .sl [], .sl [], .bool false]), vb, .one (.ag [.int .i64 0, .int .i64 0, .int .i64 0, .sl [], .sl [], .sl [], .bool false]), .one (.ag [.int .i64 0, .int .i64 0, .int .i64 0, .sl [], .sl [], .sl [], .bool false]), .one (.ag [.int .i64 0, .int .i64 0, .int .i64 0, .sl [], .sl [], .sl [], .bool false]), vb, vb, vb, vb, .one (.ag [.int .i64 0, .int .i64 0, .int .i64 0, .sl [], .sl [], .sl [], .bool false]), .one (.ag [.int .i64 0, .int .i64 0, .int .i64 0, .sl [], .sl [], .sl [], .bool false]), .one (.ag [.int .i64 0, .int .i64 0, .int .i64 0, .sl [], .sl [], .sl [], .bool false]), vb, vb], obs := [(1, [.int .i64 0, .int .i64 0, .int .i64 0, .sl [], .sl [], .sl [], .bool false]), (5, [.int .i64 0, .int .i64 0, .int .i64 0, .sl [], .sl [], .sl [], .bool false])], tk := [8, 10, 19, 20, 22, 23], keep := [(0, [1]), (1, [1, 3]), (2, [1, 3]), (3, [1, 11]), (4, [2]), (5, [1, 4]), (6, [1, 4, 5]), (7, [1, 4, 5, 6]), (8, [1, 5, 21]), (9, [2]), (10, [26]), (11, [2]), (12, [2])] }
def F15 : FA := { n := 26, sh := [vl, vl, vj, vj, vb, vi, vl, vi, vl, vi, vb, vi, vl, vi, vb, vi, vi, vl, vi, .one (.cp [.int .i64 0]), vi, vl, vi, .one (.cp [.int .i64 0]), vi, vb], obs := [], tk := [15], keep := [(0, [0, 1]), (1, [0, 1, 10]), (2, [4]), (3, [0, 1, 5]), (4, [0, 1, 5, 14]), (5, [0, 1, 5]), (6, [0, 1, 5, 25]), (7, [4]), (8, [4])] }
def F23 : FA := { n := 31, sh := [.one (.ag [.int .i64 0, .int .i64 0, .str [], .sl []]), .one (.ag [.int .i64 0, .int .i64 0, .str [], .sl []]), .one (.ptr 2 0), .one (.ptr 3 0), vb, .one (.ptr 2 0), vi, .one (.ptr 3 0), vi, vb, vb, .one (.ptr 2 1), vi, .one (.ptr 3 1), vi, vb, vb, vb, .one (.ptr 2 2), vs, .one (.ptr 3 2), vs, vb, vb, vb, .one (.ptr 2 3), vl, .one (.ptr 3 3), vl, vb, vb], obs := [(2, [.int .i64 0, .int .i64 0, .str [], .sl []]), (3, [.int .i64 0, .int .i64 0, .str [], .sl []])], tk := [6, 8, 10, 12, 14, 17, 19, 21, 24, 26, 28], keep := [(0, [2, 3]), (1, [4])] }
def F29 : FA := { n := 19, sh := [.one (.ag [.int .i64 0, .int .i64 0, .str [], .sl []]), vi, .one (.ptr 2 0), vj, vi, vi, .one (.ptr 2 2), vs, vi, vi, vi, vb, .one (.ptr 2 3), vl, vi, vi, vi, vb, vi], obs := [(2, [.int .i64 0, .int .i64 0, .str [], .sl []])], tk := [5, 7, 13, 14, 18], keep := [(0, [1, 2]), (1, [1, 2]), (2, [1, 2, 11]), (3, [4]), (4, [1]), (5, [1, 17]), (6, [4]), (7, [4])] }
def F30 : FA := { n := 18, sh := [.one (.ag [.int .i64 0, .int .i64 0, .str [], .sl []]), .one (.ptr 1 0), .one (.ptr 2 0), .one (.ptr 3 0), .one (.ptr 1 0), vi, .one (.ptr 3 0), .one (.ptr 1 1), vi, .one (.ptr 3 1), .one (.ptr 1 2), vs, .one (.ptr 3 2), .one (.ptr 1 3), vl, vl, .one (.ptr 3 3), .one (.ag [.int .i64 0, .int .i64 0, .str [], .sl []])], obs := [(1, [.int .i64 0, .int .i64 0, .str [], .sl []]), (2, [.int .i64 0, .int .i64 0, .str [], .sl []]), (3, [.int .i64 0, .int .i64 0, .str [], .sl []])], tk := [5, 8, 11, 14, 17], keep := [(0, [1, 2]), (1, [1, 2, 3]), (2, [1, 2, 3]), (3, [1, 2, 3]), (4, [1, 2, 3]), (5, [2, 3]), (6, [2])] }
def F32 : FA := { n := 26, sh := [.one (.ag [.int .i64 0, .int .i64 0, .str [], .sl []]), .one (.ag [.int .i64 0, .int .i64 0, .str [], .sl []]), .one (.ptr 2 0), .one (.ptr 3 0), vb, .one (.ptr 2 0), vi, .one (.ptr 3 0), vi, vb, .one (.ptr 2 1), vi, .one (.ptr 3 1), vi, vb, .one (.ptr 2 2), vs, .one (.ptr 3 2), vs, vb, .one (.ptr 2 3), vl, .one (.ptr 3 3), vl, vb, vb], obs := [(2, [.int .i64 0, .int .i64 0, .str [], .sl []]), (3, [.int .i64 0, .int .i64 0, .str [], .sl []])], tk := [6, 8, 11, 13, 16, 18, 21, 23], keep := [(0, [2, 3]), (1, [2, 3, 9]), (2, [4]), (3, [2, 3, 14]), (4, [4]), (5, [2, 3, 19]), (6, [4]), (7, [25]), (8, [4]), (9, [4])] }
def F48 : FA := { n := 24, sh := [.one (.ag [.int .i64 0, .int .i64 0, .int .i64 0, .sl [], .sl [], .sl [], .bool false]), vi, .one (.ptr 2 0), vj, vi, .one (.ptr 2 3), vl, vi, vi, vi, vb, .one (.ptr 2 4), vl, vi, vi, vi, vb, .one (.ptr 2 5), vl, vi, vi, vi, vb, vi], obs := [(2, [.int .i64 0, .int .i64 0, .int .i64 0, .sl [], .sl [], .sl [], .bool false])], tk := [6, 7, 12, 13, 18, 19, 23], keep := [(0, [1, 2]), (1, [1, 2]), (2, [1, 2, 10]), (3, [4]), (4, [1, 2]), (5, [1, 2, 16]), (6, [4]), (7, [1]), (8, [1, 22]), (9, [4]), (10, [4])] }
def F49 : FA := { n := 86, sh := [.one (.ag [.int .i64 0, .int .i64 0, .int .i64 0, .sl [], .sl [], .sl [], .bool false]), .one (.ptr 1 0), vb, vi, vi, .one (.ptr 1 0), vi, vb, vb, vb, .one (.ptr 1 1), vi, vb, vb, vb, vb, .one (.ptr 1 2), vi, vb, vb, vb, vb, .one (.ptr 1 3), vl, vi, vb, vb, vb, vb, .one (.ptr 1 4), vl, vi, .one (.ptr 1 3), vl, vi, vb, vb, vb, .one (.ptr 1 5), vl, vi, .one (.ptr 1 1), vi, vb, vb, vi, .one (.ptr 1 3), vl, vi, vb, vi, vi, .one (.ptr 1 3), vl, vi, .one (.cp [.str [], .str [], .int .i64 0, .int .i64 0, .str [], .sl [], .int .i64 0]), .one (.ag [.str [], .str [], .int .i64 0, .int .i64 0, .str [], .sl [], .int .i64 0]), vb, vb, vb, .one (.ptr 1 4), vl, vi, .one (.cp [.int .i64 0]), vi, vb, vb, vi, .one (.ptr 1 5), vl, vi, vb, vi, vi, .one (.ptr 1 5), vl, vi, vi, .one (.cp [.int .i64 0]), vi, .one (.ptr 1 5), vl, vi, .one (.cp [.int .i64 0]), vi, vb], obs := [(1, [.int .i64 0, .int .i64 0, .int .i64 0, .sl [], .sl [], .sl [], .bool false])], tk := [6, 9, 15, 17, 21, 28, 37, 42, 50, 59, 72], keep := [(0, [1]), (1, [1, 44]), (2, [2]), (3, [1, 3]), (4, [1, 3, 49]), (5, [1, 3]), (6, [1, 3, 66]), (7, [2]), (8, [1, 4]), (9, [1, 4, 71]), (10, [1, 4]), (11, [1, 4, 85]), (12, [2]), (13, [2])] }
def F50 : FA := { n := 29, sh := [.one (.ag [.int .i64 0, .int .i64 0, .int .i64 0, .sl [], .sl [], .sl [], .bool false]), .one (.ptr 1 0), .one (.ptr 2 0), .one (.ptr 3 0), .one (.ptr 1 0), vi, .one (.ptr 3 0), .one (.ptr 1 1), vi, .one (.ptr 3 1), .one (.ptr 1 2), vi, .one (.ptr 3 2), .one (.ptr 1 3), vl, vl, .one (.ptr 3 3), .one (.ptr 1 4), vl, vl, .one (.ptr 3 4), .one (.ptr 1 5), vl, vl, .one (.ptr 3 5), .one (.ptr 1 6), vb, .one (.ptr 3 6), .one (.ag [.int .i64 0, .int .i64 0, .int .i64 0, .sl [], .sl [], .sl [], .bool false])], obs := [(1, [.int .i64 0, .int .i64 0, .int .i64 0, .sl [], .sl [], .sl [], .bool false]), (2, [.int .i64 0, .int .i64 0, .int .i64 0, .sl [], .sl [], .sl [], .bool false]), (3, [.int .i64 0, .int .i64 0, .int .i64 0, .sl [], .sl [], .sl [], .bool false])], tk := [5, 8, 11, 14, 18, 22, 26, 28], keep := [(0, [1, 2]), (1, [1, 2, 3]), (2, [1, 2, 3]), (3, [1, 2, 3]), (4, [1, 2, 3]), (5, [1, 2, 3]), (6, [1, 2, 3]), (7, [1, 2, 3]), (8, [2, 3]), (9, [2])] }
def F51 : FA := { n := 71, sh := [.one (.ag [.int .i64 0, .int .i64 0, .int .i64 0, .sl [], .sl [], .sl [], .bool false]), .one (.ptr 1 0), vb, vj, .one (.ptr 4 0), vj, vi, .one (.ptr 1 3), vl, vi, vi, vb, .one (.cp [.str [], .str [], .int .i64 0, .int .i64 0, .str [], .sl [], .int .i64 0]), .one (.ag [.str [], .str [], .int .i64 0, .int .i64 0, .str [], .sl [], .int .i64 0]), .one (.ag [.str [], .str [], .int .i64 0, .int .i64 0, .str [], .sl [], .int .i64 0]), vb, vb, vi, .one (.ptr 1 4), vl, vi, vi, vb, .one (.cp [.int .i64 0]), vi, vi, vb, vi, .one (.ptr 1 0), vi, vb, vb, vb, .one (.ptr 1 1), vi, vb, vb, vb, vb, .one (.ptr 1 2), vi, vb, vb, vb, vb, .one (.ptr 1 3), vl, vi, vb, vb, vb, .one (.ptr 1 4), vl, vi, .one (.ptr 1 3), vl, vi, vb, vb, .one (.ptr 1 5), vl, vb, vb, vb, .one (.ptr 1 5), vl, vi, .one (.ptr 1 1), vi, vb, vb], obs := [(1, [.int .i64 0, .int .i64 0, .int .i64 0, .sl [], .sl [], .sl [], .bool false]), (4, [.str [], .str [], .int .i64 0, .int .i64 0, .str [], .sl [], .int .i64 0])], tk := [10, 14, 21, 25, 29, 32, 38, 40, 44, 52, 55, 58, 63, 65, 68], keep := [(0, [1]), (1, [1, 8, 9, 10]), (2, [1, 8, 9, 10, 11]), (3, [1, 4, 8, 9, 10]), (4, [1, 8, 9, 10, 16]), (5, [2]), (6, [1, 8, 9, 10]), (7, [1, 19, 20, 21]), (8, [1, 19, 20, 21, 22]), (9, [1, 6, 19, 20, 21]), (10, [1, 19, 20, 21, 26]), (11, [2]), (12, [1, 19, 20, 21]), (13, [1, 50]), (14, [2]), (15, [2])] }
def F52 : FA := { n := 43, sh := [.one (.ag [.int .i64 0, .int .i64 0, .int .i64 0, .sl [], .sl [], .sl [], .bool false]), .one (.ag [.int .i64 0, .int .i64 0, .int .i64 0, .sl [], .sl [], .sl [], .bool false]), .one (.ptr 2 0), .one (.ptr 3 0), vb, .one (.ptr 2 0), vi, .one (.ptr 3 0), vi, vb, .one (.ptr 2 1), vi, .one (.ptr 3 1), vi, vb, .one (.ptr 2 2), vi, .one (.ptr 3 2), vi, vb, .one (.ptr 2 3), vl, .one (.ptr 3 3), vl, vb, vb, .one (.ptr 2 4), vl, .one (.ptr 3 4), vl, vb, vb, .one (.ptr 2 5), vl, .one (.ptr 3 5), vl, vb, vb, .one (.ptr 2 6), vb, .one (.ptr 3 6), vb, vb], obs := [(2, [.int .i64 0, .int .i64 0, .int .i64 0, .sl [], .sl [], .sl [], .bool false]), (3, [.int .i64 0, .int .i64 0, .int .i64 0, .sl [], .sl [], .sl [], .bool false])], tk := [6, 8, 11, 13, 16, 18, 21, 23, 27, 29, 33, 35, 39, 41], keep := [(0, [2, 3]), (1, [2, 3, 9]), (2, [4]), (3, [2, 3, 14]), (4, [4]), (5, [2, 3, 19]), (6, [4]), (7, [2, 3, 25]), (8, [4]), (9, [2, 3, 31]), (10, [4]), (11, [2, 3, 37]), (12, [4]), (13, [42]), (14, [4]), (15, [4])] }
def F56 : FA := { n := 15, sh := [vi, vi, vi, vj, vj, vj, vb, vi, vi, vb, vb, vi, vi, vb, vb], obs := [], tk := [8, 10, 11, 12], keep := [(0, [0, 1, 2]), (1, [6])] }
def F57 : FA := { n := 15, sh := [vi, vi, vi, vj, vj, vj, vb, vi, vi, vb, vb, vi, vi, vb, vb], obs := [], tk := [8, 10, 11, 12], keep := [(0, [0, 1, 2]), (1, [6])] }
def F67 : FA := { n := 32, sh := [vl, vl, .one (.fn 23 []), vj, vj, vj, vb, vi, .one (.ptr 8 0), .one (.ptr 9 0), vl, vi, vl, vi, vb, vl, vi, vi, vb, vi, .one (.cp [.int .i64 0, .int .i64 0, .str [], .sl []]), .one (.ag [.int .i64 0, .int .i64 0, .str [], .sl []]), vl, vi, .one (.cp [.int .i64 0, .int .i64 0, .str [], .sl []]), .one (.ag [.int .i64 0, .int .i64 0, .str [], .sl []]), .one (.fn 23 []), .one (.ag [.int .i64 0, .int .i64 0, .str [], .sl []]), .one (.ag [.int .i64 0, .int .i64 0, .str [], .sl []]), vb, vb, vi], obs := [(8, [.int .i64 0, .int .i64 0, .str [], .sl []]), (9, [.int .i64 0, .int .i64 0, .str [], .sl []])], tk := [15, 17, 23, 27, 28], keep := [(0, [0, 1, 2]), (1, [0, 1, 2, 14]), (2, [6]), (3, [1, 2, 15, 16, 17]), (4, [1, 2, 15, 16, 17, 18]), (5, [1, 2, 7, 8, 15, 16, 17]), (6, [1, 2, 8, 9, 15, 16, 17]), (7, [1, 2, 15, 16, 17, 30]), (8, [6]), (9, [1, 2, 15, 16, 17]), (10, [6])] }
def F68 : FA := { n := 27, sh := [vl, vi, vj, vj, vi, vi, vi, vl, vi, vi, vi, vb, vi, vl, vi, vb, vi, vi, vl, vi, .one (.cp [.int .i64 0, .int .i64 0, .str [], .sl []]), .one (.ag [.int .i64 0, .int .i64 0, .str [], .sl []]), vi, vi, vi, vb, vi], obs := [], tk := [6, 16, 22, 26], keep := [(0, [0, 1]), (1, [0, 1]), (2, [0, 1, 11]), (3, [4]), (4, [0, 1, 5]), (5, [0, 1, 5, 15]), (6, [0, 1, 5]), (7, [0, 1, 5]), (8, [0, 1, 5, 25]), (9, [4]), (10, [4])] }
def F69 : FA := { n := 6, sh := [.one (.ag [.int .i64 0, .int .i64 0, .str [], .sl []]), .one (.ptr 1 0), vb, .one (.ag [.int .i64 0, .int .i64 0, .str [], .sl []]), vi, vb], obs := [(1, [.int .i64 0, .int .i64 0, .str [], .sl []])], tk := [3], keep := [(0, [1]), (1, [2])] }
def F70 : FA := { n := 36, sh := [vs, vj, vb, vi, vi, vb, vi, vs, vi, vb, vi, vi, vs, vi, vy, vi, vi, vb, vb, vb, vb, vi, vb, vb, vi, vb, vb, vb, vi, vb, vb, vb, vb, vs, vi, vb], obs := [], tk := [10, 18, 20, 23, 27, 28, 33], keep := [(0, [0]), (1, [0, 3]), (2, [0, 3, 9]), (3, [0, 3]), (4, [0, 3, 4]), (5, [0, 3, 4, 5]), (6, [0, 3, 32]), (7, [2]), (8, [2])] }
def F71 : FA := { n := 23, sh := [vl, vj, vl, vl, vi, vl, vi, vl, vi, vl, vi, vb, vi, vi, .one (.al (.s 3 0 0) []), vi, vl, vi, .one (.cp [.int .i64 0, .int .i64 0, .str [], .sl []]), .one (.ag [.int .i64 0, .int .i64 0, .str [], .sl []]), .one (.ag [.int .i64 0, .int .i64 0, .str [], .sl []]), .one (.pp (.s 3 0 0) [] 0 0), vl], obs := [], al := [14], tk := [12, 22], keep := [(0, [0]), (1, [0, 3]), (2, [0, 3, 4]), (3, [0, 3, 4, 11]), (4, [0, 3, 4]), (5, [0, 3, 4]), (6, [2])] }
def F72 : FA := { n := 35, sh := [vs, vj, vb, vi, vi, vs, vi, vb, vi, vi, vs, vi, vy, vb, vb, vb, vi, vb, vb, vs, vi, vy, vb, vb, vb, vs, vi, vy, vb, vb, vb, vb, vs, vi, vb], obs := [], tk := [8, 15, 18, 24, 32], keep := [(0, [0]), (1, [0, 3]), (2, [0, 3, 7]), (3, [0, 3]), (4, [0, 3, 31]), (5, [2]), (6, [2])] }
def F73 : FA := { n := 6, sh := [.one (.ag [.int .i64 0, .int .i64 0, .str [], .sl []]), .one (.ptr 1 0), vb, .one (.ag [.int .i64 0, .int .i64 0, .str [], .sl []]), vi, vb], obs := [(1, [.int .i64 0, .int .i64 0, .str [], .sl []])], tk := [3], keep := [(0, [1]), (1, [2])] }
def F75 : FA := { n := 27, sh := [vl, vl, vj, vj, vb, vi, vl, vi, vl, vi, vb, vi, vl, vi, vb, vi, vi, vl, vi, .one (.cp [.int .i64 0, .int .i64 0, .str [], .sl []]), .one (.ag [.int .i64 0, .int .i64 0, .str [], .sl []]), vl, vi, .one (.cp [.int .i64 0, .int .i64 0, .str [], .sl []]), .one (.ag [.int .i64 0, .int .i64 0, .str [], .sl []]), vb, vb], obs := [], tk := [15], keep := [(0, [0, 1]), (1, [0, 1, 10]), (2, [4]), (3, [0, 1, 5]), (4, [0, 1, 5, 14]), (5, [0, 1, 5]), (6, [0, 1, 5, 26]), (7, [4]), (8, [4])] }
def F92 : FA := { n := 27, sh := [vl, vi, vj, vj, vi, vi, vi, vl, vi, vi, vi, vb, vi, vl, vi, vb, vi, vi, vl, vi, .one (.cp [.str [], .str [], .int .i64 0, .int .i64 0, .str [], .sl [], .int .i64 0]), .one (.ag [.str [], .str [], .int .i64 0, .int .i64 0, .str [], .sl [], .int .i64 0]), vi, vi, vi, vb, vi], obs := [], tk := [6, 16, 22, 26], keep := [(0, [0, 1]), (1, [0, 1]), (2, [0, 1, 11]), (3, [4]), (4, [0, 1, 5]), (5, [0, 1, 5, 15]), (6, [0, 1, 5]), (7, [0, 1, 5]), (8, [0, 1, 5, 25]), (9, [4]), (10, [4])] }
def F93 : FA := { n := 12, sh := [vl, vi, vj, vj, vi, vi, vl, vi, vi, vi, vb, vi], obs := [], tk := [5, 6, 11], keep := [(0, [0, 1]), (1, [1]), (2, [1, 10]), (3, [4]), (4, [4])] }
def F94 : FA := { n := 37, sh := [.one (.ag [.str [], .str [], .int .i64 0, .int .i64 0, .str [], .sl [], .int .i64 0]), .one (.ptr 1 0), vb, .one (.ptr 1 6), vi, vb, .one (.ptr 1 0), vs, vb, vb, .one (.ptr 1 1), vs, vb, vb, vb, .one (.ptr 1 2), .one (.ag [.int .i64 0, .int .i64 0, .str [], .sl []]), vb, vb, .one (.ptr 1 0), vs, vb, vb, .one (.ptr 1 6), vi, vb, vb, vb, .one (.ptr 1 1), vs, vb, vb, vb, .one (.ptr 1 2), .one (.ag [.int .i64 0, .int .i64 0, .str [], .sl []]), vb, vb], obs := [(1, [.str [], .str [], .int .i64 0, .int .i64 0, .str [], .sl [], .int .i64 0])], tk := [7, 9, 11, 14, 16, 20, 22, 24, 27, 29, 32, 34], keep := [(0, [1]), (1, [1, 5]), (2, [2]), (3, [2])] }
def F95 : FA := { n := 23, sh := [vl, vj, vl, vl, vi, vl, vi, vl, vi, vl, vi, vb, vi, vi, .one (.al (.s 3 0 0) []), vi, vl, vi, .one (.cp [.str [], .str [], .int .i64 0, .int .i64 0, .str [], .sl [], .int .i64 0]), .one (.ag [.str [], .str [], .int .i64 0, .int .i64 0, .str [], .sl [], .int .i64 0]), .one (.ag [.str [], .str [], .int .i64 0, .int .i64 0, .str [], .sl [], .int .i64 0]), .one (.pp (.s 3 0 0) [] 0 0), vl], obs := [], al := [14], tk := [12, 22], keep := [(0, [0]), (1, [0, 3]), (2, [0, 3, 4]), (3, [0, 3, 4, 11]), (4, [0, 3, 4]), (5, [0, 3, 4]), (6, [2])] }
def F96 : FA := { n := 22, sh := [vl, vj, vl, vl, vi, vl, vi, vl, vi, vl, vi, vb, vi, vi, .one (.al (.s 3 0 0) []), vi, vl, vi, .one (.cp [.int .i64 0]), vi, .one (.pp (.s 3 0 0) [] 0 0), vl], obs := [], al := [14], tk := [12, 21], keep := [(0, [0]), (1, [0, 3]), (2, [0, 3, 4]), (3, [0, 3, 4, 11]), (4, [0, 3, 4]), (5, [0, 3, 4]), (6, [2])] }
def F97 : FA := { n := 31, sh := [.one (.ag [.str [], .str [], .int .i64 0, .int .i64 0, .str [], .sl [], .int .i64 0]), .one (.ptr 1 0), vb, .one (.ptr 1 0), vs, vb, vb, .one (.ptr 1 6), vi, vb, .one (.ptr 1 1), vs, vb, vb, .one (.ptr 1 2), .one (.ag [.int .i64 0, .int .i64 0, .str [], .sl []]), vb, vb, .one (.ptr 1 6), vi, vb, vb, .one (.ptr 1 1), vs, vb, vb, vb, .one (.ptr 1 2), .one (.ag [.int .i64 0, .int .i64 0, .str [], .sl []]), vb, vb], obs := [(1, [.str [], .str [], .int .i64 0, .int .i64 0, .str [], .sl [], .int .i64 0])], tk := [4, 11, 13, 15, 19, 21, 23, 26, 28], keep := [(0, [1]), (1, [1, 6]), (2, [2]), (3, [1, 9]), (4, [2]), (5, [2])] }
def F98 : FA := { n := 21, sh := [vl, vj, vb, vi, vl, vi, vi, vi, vb, vi, vi, vl, vi, .one (.cp [.int .i64 0]), vi, vl, vi, vi, .one (.cp [.int .i64 0]), vi, vb], obs := [], tk := [9], keep := [(0, [0]), (1, [0, 3]), (2, [0, 3, 8]), (3, [0, 3]), (4, [0, 3, 20]), (5, [2]), (6, [2])] }
def F99 : FA := { n := 27, sh := [vl, vl, vj, vj, vb, vi, vl, vi, vl, vi, vb, vi, vl, vi, vb, vi, vi, vl, vi, .one (.cp [.str [], .str [], .int .i64 0, .int .i64 0, .str [], .sl [], .int .i64 0]), .one (.ag [.str [], .str [], .int .i64 0, .int .i64 0, .str [], .sl [], .int .i64 0]), vl, vi, .one (.cp [.str [], .str [], .int .i64 0, .int .i64 0, .str [], .sl [], .int .i64 0]), .one (.ag [.str [], .str [], .int .i64 0, .int .i64 0, .str [], .sl [], .int .i64 0]), vb, vb], obs := [], tk := [15], keep := [(0, [0, 1]), (1, [0, 1, 10]), (2, [4]), (3, [0, 1, 5]), (4, [0, 1, 5, 14]), (5, [0, 1, 5]), (6, [0, 1, 5, 26]), (7, [4]), (8, [4])] }
def F107 : FA := { n := 42, sh := [.one (.ag [.int .i64 0, .int .i64 0, .str [], .sl []]), vi, vi, .one (.ptr 3 0), vj, vj, vi, vi, vi, vb, vb, vi, vb, vb, vb, .one (.ag [.int .i64 0, .int .i64 0, .str [], .sl []]), vb, vb, vb, vi, vi, vi, .one (.ptr 3 3), vl, vi, vb, vb, vi, vb, vb, vi, vi, .one (.ptr 3 3), vl, vi, .one (.cp [.int .i64 0, .int .i64 0, .str [], .sl []]), .one (.ag [.int .i64 0, .int .i64 0, .str [], .sl []]), vi, vi, vi, vi, vi], obs := [(3, [.int .i64 0, .int .i64 0, .str [], .sl []])], tk := [10, 14, 19, 26, 30, 39, 41], keep := [(0, [1, 2, 3]), (1, [1, 2, 3, 18]), (2, [6]), (3, [1, 2, 3]), (4, [1, 2, 3, 7]), (5, [1, 2, 3, 7, 29]), (6, [1, 2, 3, 7]), (7, [1, 2, 3, 7]), (8, [6])] }
def F108 : FA := { n := 9, sh := [vy, vj, vb, vy, vb, vb, vy, vb, vb], obs := [], tk := [5, 6], keep := [(0, [0]), (1, [2])] }
def F109 : FA := { n := 9, sh := [vy, vj, vb, vy, vb, vb, vy, vb, vb], obs := [], tk := [5, 6], keep := [(0, [0]), (1, [2])] }
def F110 : FA := { n := 32, sh := [.one (.ag [.int .i64 0, .int .i64 0, .str [], .sl []]), vi, .one (.ptr 2 0), vj, vi, vi, vj, .one (.ptr 7 0), vi, vb, vb, .one (.ag [.int .i64 0, .int .i64 0, .str [], .sl []]), vb, vb, vb, .one (.ptr 2 3), vl, vi, vi, vb, .one (.cp [.int .i64 0, .int .i64 0, .str [], .sl []]), .one (.ag [.int .i64 0, .int .i64 0, .str [], .sl []]), vi, .one (.ag [.int .i64 0, .int .i64 0, .str [], .sl []]), vi, vi, vi, vi, vi, vb, vi, vi], obs := [(2, [.int .i64 0, .int .i64 0, .str [], .sl []]), (7, [.int .i64 0, .int .i64 0, .str [], .sl []])], tk := [10, 16, 18, 22, 23, 31], keep := [(0, [1, 2]), (1, [1, 2, 14]), (2, [4]), (3, [1, 2, 5]), (4, [1, 5, 16, 17, 18]), (5, [1, 5, 16, 17, 18, 19]), (6, [1, 5, 7, 16, 17, 18]), (7, [1, 5, 16, 17, 18]), (8, [1, 5, 16, 17, 18, 29]), (9, [4]), (10, [1, 5, 16, 17, 18]), (11, [4])] }
def F120 : FA := { n := 26, sh := [.one (.ag [.str [], .str [], .int .i64 0, .int .i64 0, .str [], .sl [], .int .i64 0]), vi, .one (.ptr 2 0), vj, vi, vi, .one (.ptr 2 0), vs, vi, vi, vi, vb, vi, .one (.ptr 2 1), vs, vi, vi, vi, vb, .one (.ptr 2 2), .one (.ag [.int .i64 0, .int .i64 0, .str [], .sl []]), vi, vi, vi, vb, vi], obs := [(2, [.str [], .str [], .int .i64 0, .int .i64 0, .str [], .sl [], .int .i64 0])], tk := [5, 7, 12, 14, 20, 21, 25], keep := [(0, [1, 2]), (1, [1, 2]), (2, [1, 2, 11]), (3, [4]), (4, [1, 2]), (5, [1, 2, 18]), (6, [4]), (7, [1]), (8, [1, 24]), (9, [4]), (10, [4])] }
def F121 : FA := { n := 22, sh := [.one (.ag [.int .i64 0, .int .i64 0, .str [], .sl []]), .one (.ptr 1 0), vb, .one (.ptr 1 0), vi, vb, vb, .one (.ptr 1 1), vi, vb, vb, vb, .one (.ptr 1 2), vs, vb, vb, vb, .one (.ptr 1 3), vl, vi, vb, vb], obs := [(1, [.int .i64 0, .int .i64 0, .str [], .sl []])], tk := [4, 6, 8, 11, 13, 16, 18], keep := [(0, [1]), (1, [2])] }
def F122 : FA := { n := 18, sh := [.one (.ag [.str [], .str [], .int .i64 0, .int .i64 0, .str [], .sl [], .int .i64 0]), .one (.ptr 1 0), .one (.ptr 2 0), .one (.ptr 3 0), .one (.ptr 1 0), vs, .one (.ptr 3 0), .one (.ptr 1 1), vs, .one (.ptr 3 1), .one (.ptr 1 2), .one (.ag [.int .i64 0, .int .i64 0, .str [], .sl []]), .one (.ag [.int .i64 0, .int .i64 0, .str [], .sl []]), .one (.ptr 3 2), .one (.ptr 1 6), vi, .one (.ptr 3 6), .one (.ag [.str [], .str [], .int .i64 0, .int .i64 0, .str [], .sl [], .int .i64 0])], obs := [(1, [.str [], .str [], .int .i64 0, .int .i64 0, .str [], .sl [], .int .i64 0]), (2, [.str [], .str [], .int .i64 0, .int .i64 0, .str [], .sl [], .int .i64 0]), (3, [.str [], .str [], .int .i64 0, .int .i64 0, .str [], .sl [], .int .i64 0])], tk := [5, 8, 11, 15, 17], keep := [(0, [1, 2]), (1, [1, 2, 3]), (2, [1, 2, 3]), (3, [1, 2, 3]), (4, [1, 2, 3]), (5, [2, 3]), (6, [2])] }
def F123 : FA := { n := 6, sh := [.one (.ag [.int .i64 0, .int .i64 0, .str [], .sl []]), .one (.ptr 1 0), vb, .one (.ag [.int .i64 0, .int .i64 0, .str [], .sl []]), .one (.ag [.int .i64 0, .int .i64 0, .str [], .sl []]), vb], obs := [(1, [.int .i64 0, .int .i64 0, .str [], .sl []])], tk := [3], keep := [(0, [1]), (1, [2])] }
def F124 : FA := { n := 17, sh := [vi, vi, vj, vj, vb, vi, vb, vb, vi, vb, vb, vb, vb, vi, vi, vb, vb], obs := [], tk := [7, 12, 13, 14], keep := [(0, [0, 1]), (1, [4])] }
def F125 : FA := { n := 26, sh := [.one (.ag [.str [], .str [], .int .i64 0, .int .i64 0, .str [], .sl [], .int .i64 0]), .one (.ag [.str [], .str [], .int .i64 0, .int .i64 0, .str [], .sl [], .int .i64 0]), .one (.ptr 2 0), .one (.ptr 3 0), vb, .one (.ptr 2 0), vs, .one (.ptr 3 0), vs, vb, .one (.ptr 2 1), vs, .one (.ptr 3 1), vs, vb, .one (.ptr 2 2), .one (.ag [.int .i64 0, .int .i64 0, .str [], .sl []]), .one (.ptr 3 2), .one (.ag [.int .i64 0, .int .i64 0, .str [], .sl []]), vb, vb, .one (.ptr 2 6), vi, .one (.ptr 3 6), vi, vb], obs := [(2, [.str [], .str [], .int .i64 0, .int .i64 0, .str [], .sl [], .int .i64 0]), (3, [.str [], .str [], .int .i64 0, .int .i64 0, .str [], .sl [], .int .i64 0])], tk := [6, 8, 11, 13, 16, 18, 22, 24], keep := [(0, [2, 3]), (1, [2, 3, 9]), (2, [4]), (3, [2, 3, 14]), (4, [4]), (5, [2, 3, 20]), (6, [4]), (7, [25]), (8, [4]), (9, [4])] }
def F128 : FA := { n := 85, sh := [.one (.ag [.int .i64 0, .int .i64 0, .str [], .sl []]), .one (.ptr 1 0), vb, .one (.ptr 1 0), vi, vb, vb, .one (.ptr 1 1), vi, vb, vb, .one (.ptr 1 2), vs, vb, vb, vb, .one (.ptr 1 3), vl, vi, vb, vb, vb, vb, .one (.ptr 1 2), vs, vb, vb, .one (.ptr 1 1), vi, vb, vb, vb, .one (.ptr 1 3), vl, vi, vb, vb, vb, vb, .one (.ptr 1 1), vi, vb, vb, .one (.ptr 1 2), vs, vb, vb, vb, .one (.ptr 1 3), vl, vi, vb, vb, vb, vb, .one (.ptr 1 1), vi, vb, vb, .one (.ptr 1 2), vs, vb, vb, vb, .one (.ptr 1 3), vl, vi, vb, vb, vb, vb, .one (.ptr 1 1), vi, vb, vb, .one (.ptr 1 2), vs, vb, vb, vb, .one (.ptr 1 3), vl, vi, vb, vb], obs := [(1, [.int .i64 0, .int .i64 0, .str [], .sl []])], tk := [4, 8, 10, 12, 15, 17, 24, 26, 28, 31, 33, 40, 42, 44, 47, 49, 56, 58, 60, 63, 65, 72, 74, 76, 79, 81], keep := [(0, [1]), (1, [1, 4]), (2, [1, 4, 5]), (3, [2]), (4, [1, 4, 21]), (5, [2]), (6, [1, 4, 37]), (7, [2]), (8, [1, 4, 53]), (9, [2]), (10, [1, 69]), (11, [2]), (12, [2])] }
def F129 : FA := { n := 85, sh := [.one (.ag [.int .i64 0, .int .i64 0, .str [], .sl []]), .one (.ptr 1 0), vb, .one (.ptr 1 0), vi, vb, vb, .one (.ptr 1 1), vi, vb, vb, .one (.ptr 1 2), vs, vb, vb, vb, .one (.ptr 1 3), vl, vi, vb, vb, vb, vb, .one (.ptr 1 1), vi, vb, vb, .one (.ptr 1 2), vs, vb, vb, vb, .one (.ptr 1 3), vl, vi, vb, vb, vb, vb, .one (.ptr 1 1), vi, vb, vb, .one (.ptr 1 2), vs, vb, vb, vb, .one (.ptr 1 3), vl, vi, vb, vb, vb, vb, .one (.ptr 1 1), vi, vb, vb, .one (.ptr 1 2), vs, vb, vb, vb, .one (.ptr 1 3), vl, vi, vb, vb, vb, vb, .one (.ptr 1 1), vi, vb, vb, .one (.ptr 1 2), vs, vb, vb, vb, .one (.ptr 1 3), vl, vi, vb, vb], obs := [(1, [.int .i64 0, .int .i64 0, .str [], .sl []])], tk := [4, 8, 10, 12, 15, 17, 24, 26, 28, 31, 33, 40, 42, 44, 47, 49, 56, 58, 60, 63, 65, 72, 74, 76, 79, 81], keep := [(0, [1]), (1, [1, 4]), (2, [1, 4, 5]), (3, [2]), (4, [1, 4, 21]), (5, [2]), (6, [1, 4, 37]), (7, [2]), (8, [1, 4, 53]), (9, [2]), (10, [1, 69]), (11, [2]), (12, [2])] }
def F139 : FA := { n := 6, sh := [vi, vj, vb, vi, vi, vb], obs := [], tk := [4], keep := [(0, [0]), (1, [2])] }
def An : FuncId → FA
  | 11 => F11
  | 15 => F15
  | 23 => F23
  | 29 => F29
  | 30 => F30
  | 32 => F32
  | 48 => F48
  | 49 => F49
  | 50 => F50
  | 51 => F51
  | 52 => F52
  | 56 => F56
  | 57 => F57
  | 67 => F67
  | 68 => F68
  | 69 => F69
  | 70 => F70
  | 71 => F71
  | 72 => F72
  | 73 => F73
  | 75 => F75
  | 92 => F92
  | 93 => F93
  | 94 => F94
  | 95 => F95
  | 96 => F96
  | 97 => F97
  | 98 => F98
  | 99 => F99
  | 107 => F107
  | 108 => F108
  | 109 => F109
  | 110 => F110
  | 120 => F120
  | 121 => F121
  | 122 => F122
  | 123 => F123
  | 124 => F124
  | 125 => F125
  | 128 => F128
  | 129 => F129
  | 139 => F139
  | _ => { n := 0, sh := [], obs := [] }
def Sgs : FuncId → List Sg
  | 11 => [{ bi := ⟨[(0, [[.S, .S, .S, .F, .F, .F, .S]])], []⟩, bo := ⟨[(0, [[.S]])], []⟩, np := 1, ext := false }]
  | 15 => [{ bi := ⟨[(0, [[.F]]), (1, [[.F]])], []⟩, bo := ⟨[(0, [[.S]])], []⟩, np := 2, ext := false }]
  | 23 => [{ bi := ⟨[(0, [[.S, .S, .S, .F]]), (1, [[.S, .S, .S, .F]])], []⟩, bo := ⟨[(0, [[.S]])], []⟩, np := 2, ext := false }]
  | 29 => [{ bi := ⟨[(0, [[.S, .S, .S, .F]]), (1, [[.S]])], []⟩, bo := ⟨[(0, [[.S]])], []⟩, np := 2, ext := false }]
  | 30 => [{ bi := ⟨[(0, [[.S, .S, .S, .F]])], []⟩, bo := ⟨[(0, [[.S, .S, .S, .U 4]])], []⟩, np := 1, ext := false }]
  | 32 => [{ bi := ⟨[(0, [[.S, .S, .S, .F]]), (1, [[.S, .S, .S, .F]])], []⟩, bo := ⟨[(0, [[.S]])], []⟩, np := 2, ext := false }]
  | 48 => [{ bi := ⟨[(0, [[.S, .S, .S, .F, .F, .F, .S]]), (1, [[.S]])], []⟩, bo := ⟨[(0, [[.S]])], []⟩, np := 2, ext := false }]
  | 49 => [{ bi := ⟨[(0, [[.S, .S, .S, .F, .F, .F, .S]])], []⟩, bo := ⟨[(0, [[.S]])], []⟩, np := 1, ext := false }]
  | 50 => [{ bi := ⟨[(0, [[.S, .S, .S, .F, .F, .F, .S]])], []⟩, bo := ⟨[(0, [[.S, .S, .S, .U 7, .U 1, .U 1, .S]])], []⟩, np := 1, ext := false }]
  | 51 => [{ bi := ⟨[(0, [[.S, .S, .S, .F, .F, .F, .S]])], []⟩, bo := ⟨[(0, [[.S]])], []⟩, np := 1, ext := false }]
  | 52 => [{ bi := ⟨[(0, [[.S, .S, .S, .F, .F, .F, .S]]), (1, [[.S, .S, .S, .F, .F, .F, .S]])], []⟩, bo := ⟨[(0, [[.S]])], []⟩, np := 2, ext := false }]
  | 56 => [{ bi := ⟨[(0, [[.S]]), (1, [[.S]]), (2, [[.S]])], []⟩, bo := ⟨[(0, [[.S]])], []⟩, np := 3, ext := false }]
  | 57 => [{ bi := ⟨[(0, [[.S]]), (1, [[.S]]), (2, [[.S]])], []⟩, bo := ⟨[(0, [[.S]])], []⟩, np := 3, ext := false }]
  | 67 => [{ bi := ⟨[(0, [[.F]]), (1, [[.F]]), (2, [[.S]])], []⟩, bo := ⟨[(0, [[.S]])], []⟩, np := 3, ext := false }]
  | 68 => [{ bi := ⟨[(0, [[.F]]), (1, [[.S]])], []⟩, bo := ⟨[(0, [[.S]])], []⟩, np := 2, ext := false }]
  | 69 => [{ bi := ⟨[(0, [[.S, .S, .S, .F]])], []⟩, bo := ⟨[(0, [[.S]])], []⟩, np := 1, ext := false }]
  | 70 => [{ bi := ⟨[(0, [[.S]])], []⟩, bo := ⟨[(0, [[.S]])], []⟩, np := 1, ext := false }]
  | 71 => [{ bi := ⟨[(0, [[.F]])], []⟩, bo := ⟨[(0, [[.U 4]])], []⟩, np := 1, ext := false }]
  | 72 => [{ bi := ⟨[(0, [[.S]])], []⟩, bo := ⟨[(0, [[.S]])], []⟩, np := 1, ext := false }]
  | 73 => [{ bi := ⟨[(0, [[.S, .S, .S, .F]])], []⟩, bo := ⟨[(0, [[.S]])], []⟩, np := 1, ext := false }]
  | 75 => [{ bi := ⟨[(0, [[.F]]), (1, [[.F]])], []⟩, bo := ⟨[(0, [[.S]])], []⟩, np := 2, ext := false }]
  | 92 => [{ bi := ⟨[(0, [[.F]]), (1, [[.S]])], []⟩, bo := ⟨[(0, [[.S]])], []⟩, np := 2, ext := false }]
  | 93 => [{ bi := ⟨[(0, [[.F]]), (1, [[.S]])], []⟩, bo := ⟨[(0, [[.S]])], []⟩, np := 2, ext := false }]
  | 94 => [{ bi := ⟨[(0, [[.S, .S, .S, .S, .S, .F, .S]])], []⟩, bo := ⟨[(0, [[.S]])], []⟩, np := 1, ext := false }]
  | 95 => [{ bi := ⟨[(0, [[.F]])], []⟩, bo := ⟨[(0, [[.U 7]])], []⟩, np := 1, ext := false }]
  | 96 => [{ bi := ⟨[(0, [[.F]])], []⟩, bo := ⟨[(0, [[.U 1]])], []⟩, np := 1, ext := false }]
  | 97 => [{ bi := ⟨[(0, [[.S, .S, .S, .S, .S, .F, .S]])], []⟩, bo := ⟨[(0, [[.S]])], []⟩, np := 1, ext := false }]
  | 98 => [{ bi := ⟨[(0, [[.F]])], []⟩, bo := ⟨[(0, [[.S]])], []⟩, np := 1, ext := false }]
  | 99 => [{ bi := ⟨[(0, [[.F]]), (1, [[.F]])], []⟩, bo := ⟨[(0, [[.S]])], []⟩, np := 2, ext := false }]
  | 107 => [{ bi := ⟨[(0, [[.S, .S, .S, .F]]), (1, [[.S]]), (2, [[.S]])], []⟩, bo := ⟨[(0, [[.S]])], []⟩, np := 3, ext := false }]
  | 108 => [{ bi := ⟨[(0, [[.S]])], []⟩, bo := ⟨[(0, [[.S]])], []⟩, np := 1, ext := false }]
  | 109 => [{ bi := ⟨[(0, [[.S]])], []⟩, bo := ⟨[(0, [[.S]])], []⟩, np := 1, ext := false }]
  | 110 => [{ bi := ⟨[(0, [[.S, .S, .S, .F]]), (1, [[.S]])], []⟩, bo := ⟨[(0, [[.S]])], []⟩, np := 2, ext := false }]
  | 120 => [{ bi := ⟨[(0, [[.S, .S, .S, .S, .S, .F, .S]]), (1, [[.S]])], []⟩, bo := ⟨[(0, [[.S]])], []⟩, np := 2, ext := false }]
  | 121 => [{ bi := ⟨[(0, [[.S, .S, .S, .F]])], []⟩, bo := ⟨[(0, [[.S]])], []⟩, np := 1, ext := false }]
  | 122 => [{ bi := ⟨[(0, [[.S, .S, .S, .S, .S, .F, .S]])], []⟩, bo := ⟨[(0, [[.S, .S, .S, .S, .S, .U 4, .S]])], []⟩, np := 1, ext := false }]
  | 123 => [{ bi := ⟨[(0, [[.S, .S, .S, .F]])], []⟩, bo := ⟨[(0, [[.S]])], []⟩, np := 1, ext := false }]
  | 124 => [{ bi := ⟨[(0, [[.S]]), (1, [[.S]])], []⟩, bo := ⟨[(0, [[.S]])], []⟩, np := 2, ext := false }]
  | 125 => [{ bi := ⟨[(0, [[.S, .S, .S, .S, .S, .F, .S]]), (1, [[.S, .S, .S, .S, .S, .F, .S]])], []⟩, bo := ⟨[(0, [[.S]])], []⟩, np := 2, ext := false }]
  | 128 => [{ bi := ⟨[(0, [[.S, .S, .S, .F]])], []⟩, bo := ⟨[(0, [[.S]])], []⟩, np := 1, ext := false }]
  | 129 => [{ bi := ⟨[(0, [[.S, .S, .S, .F]])], []⟩, bo := ⟨[(0, [[.S]])], []⟩, np := 1, ext := false }]
  | 139 => [{ bi := ⟨[(0, [[.S]])], []⟩, bo := ⟨[(0, [[.S]])], []⟩, np := 1, ext := false }]
  | _ => []
end Go.Own
