/- What is told of the functions: shapes and kinds. No conditions. -/
import Derived.Test.YticdjfieofjcaaaProg
import Derived.KernelRfl
import Derived.Test.YticdjfieofjcaaaOwn2
set_option linter.unusedVariables false
set_option linter.unusedSimpArgs false
set_option linter.unnecessarySimpa false
namespace Go.Own
open Go Go.Proofs
def τ : TypeId → Option TI
  | 3 => some { size := 1, bytes := 8, zero := [.int .i64 0], agg := false, kind := .int .i64 }
  | 4 => some { size := 1, bytes := 1, zero := [.bool false], agg := false, kind := .bool }
  | 9 => some { size := 1, bytes := 16, zero := [.str []], agg := false, kind := .str }
  | 59 => some { size := 1, bytes := 24, zero := [.sl []], agg := false, kind := .sl 114 }
  | 62 => some { size := 1, bytes := 24, zero := [.sl []], agg := false, kind := .sl 120 }
  | 109 => some { size := 1, bytes := 24, zero := [.sl []], agg := false, kind := .sl 176 }
  | 110 => some { size := 1, bytes := 24, zero := [.sl []], agg := false, kind := .sl 179 }
  | 112 => some { size := 2, bytes := 48, zero := [.sl [], .sl []], agg := true, kind := .struct [(0, 1, false), (1, 1, false)] }
  | 114 => some { size := 7, bytes := 128, zero := [.str [], .int .i64 0, .sl [], .sl [], .bool false, .sl [], .sl []], agg := true, kind := .struct [(0, 1, false), (1, 1, false), (2, 2, true), (4, 1, false), (5, 2, true)] }
  | 115 => some { size := 1, bytes := 24, zero := [.sl []], agg := false, kind := .sl 182 }
  | 116 => some { size := 1, bytes := 24, zero := [.sl []], agg := false, kind := .sl 185 }
  | 118 => some { size := 2, bytes := 48, zero := [.sl [], .sl []], agg := true, kind := .struct [(0, 1, false), (1, 1, false)] }
  | 120 => some { size := 7, bytes := 128, zero := [.str [], .int .i64 0, .sl [], .sl [], .bool false, .sl [], .sl []], agg := true, kind := .struct [(0, 1, false), (1, 1, false), (2, 2, true), (4, 1, false), (5, 2, true)] }
  | 174 => some { size := 1, bytes := 24, zero := [.sl []], agg := false, kind := .sl 194 }
  | 176 => some { size := 4, bytes := 56, zero := [.str [], .int .i64 0, .int .i64 0, .sl []], agg := true, kind := .struct [(0, 1, false), (1, 1, false), (2, 1, false), (3, 1, false)] }
  | 179 => some { size := 4, bytes := 56, zero := [.int .i64 0, .int .i64 0, .str [], .sl []], agg := true, kind := .struct [(0, 1, false), (1, 1, false), (2, 1, false), (3, 1, false)] }
  | 180 => some { size := 1, bytes := 24, zero := [.sl []], agg := false, kind := .sl 195 }
  | 182 => some { size := 4, bytes := 56, zero := [.str [], .int .i64 0, .int .i64 0, .sl []], agg := true, kind := .struct [(0, 1, false), (1, 1, false), (2, 1, false), (3, 1, false)] }
  | 185 => some { size := 4, bytes := 56, zero := [.int .i64 0, .int .i64 0, .str [], .sl []], agg := true, kind := .struct [(0, 1, false), (1, 1, false), (2, 1, false), (3, 1, false)] }
  | 194 => some { size := 4, bytes := 40, zero := [.int .i64 0, .int .i64 0, .str [], .int .i64 0], agg := true, kind := .struct [(0, 1, false), (1, 1, false), (2, 1, false), (3, 1, false)] }
  | 195 => some { size := 4, bytes := 40, zero := [.int .i64 0, .int .i64 0, .str [], .int .i64 0], agg := true, kind := .struct [(0, 1, false), (1, 1, false), (2, 1, false), (3, 1, false)] }
  | _ => none
set_option maxRecDepth 100000 in
theorem tables : Tables Try.prog τ := by
  intro t i h
  unfold τ at h
  split at h <;> (try cases h)
  · exact ⟨_, _, _, rfl, rfl, rfl, rfl, rfl, rfl, rfl, by decide, rfl, rfl⟩
  · exact ⟨_, _, _, rfl, rfl, rfl, rfl, rfl, rfl, rfl, by decide, rfl, rfl⟩
  · exact ⟨_, _, _, rfl, rfl, rfl, rfl, rfl, rfl, rfl, by decide, rfl, rfl⟩
  · exact ⟨_, _, _, rfl, rfl, rfl, rfl, rfl, rfl, rfl, by decide, rfl, rfl⟩
  · exact ⟨_, _, _, rfl, rfl, rfl, rfl, rfl, rfl, rfl, by decide, rfl, rfl⟩
  · exact ⟨_, _, _, rfl, rfl, rfl, rfl, rfl, rfl, rfl, by decide, rfl, rfl⟩
  · exact ⟨_, _, _, rfl, rfl, rfl, rfl, rfl, rfl, rfl, by decide, rfl, rfl⟩
  · refine ⟨_, _, _, rfl, rfl, rfl, rfl, rfl, rfl, rfl, by decide, rfl, _, rfl, rfl, fun j f hf => ?_⟩
    match j with
    | 0 => simp at hf; subst hf; exact ⟨_, _, rfl, rfl, rfl, rfl, by decide, rfl, rfl⟩
    | 1 => simp at hf; subst hf; exact ⟨_, _, rfl, rfl, rfl, rfl, by decide, rfl, rfl⟩
    | j + 2 => simp at hf
  · refine ⟨_, _, _, rfl, rfl, rfl, rfl, rfl, rfl, rfl, by decide, rfl, _, rfl, rfl, fun j f hf => ?_⟩
    match j with
    | 0 => simp at hf; subst hf; exact ⟨_, _, rfl, rfl, rfl, rfl, by decide, rfl, rfl⟩
    | 1 => simp at hf; subst hf; exact ⟨_, _, rfl, rfl, rfl, rfl, by decide, rfl, rfl⟩
    | 2 => simp at hf; subst hf; exact ⟨_, _, rfl, rfl, rfl, rfl, by decide, rfl, rfl⟩
    | 3 => simp at hf; subst hf; exact ⟨_, _, rfl, rfl, rfl, rfl, by decide, rfl, rfl⟩
    | 4 => simp at hf; subst hf; exact ⟨_, _, rfl, rfl, rfl, rfl, by decide, rfl, rfl⟩
    | j + 5 => simp at hf
  · exact ⟨_, _, _, rfl, rfl, rfl, rfl, rfl, rfl, rfl, by decide, rfl, rfl⟩
  · exact ⟨_, _, _, rfl, rfl, rfl, rfl, rfl, rfl, rfl, by decide, rfl, rfl⟩
  · refine ⟨_, _, _, rfl, rfl, rfl, rfl, rfl, rfl, rfl, by decide, rfl, _, rfl, rfl, fun j f hf => ?_⟩
    match j with
    | 0 => simp at hf; subst hf; exact ⟨_, _, rfl, rfl, rfl, rfl, by decide, rfl, rfl⟩
    | 1 => simp at hf; subst hf; exact ⟨_, _, rfl, rfl, rfl, rfl, by decide, rfl, rfl⟩
    | j + 2 => simp at hf
  · refine ⟨_, _, _, rfl, rfl, rfl, rfl, rfl, rfl, rfl, by decide, rfl, _, rfl, rfl, fun j f hf => ?_⟩
    match j with
    | 0 => simp at hf; subst hf; exact ⟨_, _, rfl, rfl, rfl, rfl, by decide, rfl, rfl⟩
    | 1 => simp at hf; subst hf; exact ⟨_, _, rfl, rfl, rfl, rfl, by decide, rfl, rfl⟩
    | 2 => simp at hf; subst hf; exact ⟨_, _, rfl, rfl, rfl, rfl, by decide, rfl, rfl⟩
    | 3 => simp at hf; subst hf; exact ⟨_, _, rfl, rfl, rfl, rfl, by decide, rfl, rfl⟩
    | 4 => simp at hf; subst hf; exact ⟨_, _, rfl, rfl, rfl, rfl, by decide, rfl, rfl⟩
    | j + 5 => simp at hf
  · exact ⟨_, _, _, rfl, rfl, rfl, rfl, rfl, rfl, rfl, by decide, rfl, rfl⟩
  · refine ⟨_, _, _, rfl, rfl, rfl, rfl, rfl, rfl, rfl, by decide, rfl, _, rfl, rfl, fun j f hf => ?_⟩
    match j with
    | 0 => simp at hf; subst hf; exact ⟨_, _, rfl, rfl, rfl, rfl, by decide, rfl, rfl⟩
    | 1 => simp at hf; subst hf; exact ⟨_, _, rfl, rfl, rfl, rfl, by decide, rfl, rfl⟩
    | 2 => simp at hf; subst hf; exact ⟨_, _, rfl, rfl, rfl, rfl, by decide, rfl, rfl⟩
    | 3 => simp at hf; subst hf; exact ⟨_, _, rfl, rfl, rfl, rfl, by decide, rfl, rfl⟩
    | j + 4 => simp at hf
  · refine ⟨_, _, _, rfl, rfl, rfl, rfl, rfl, rfl, rfl, by decide, rfl, _, rfl, rfl, fun j f hf => ?_⟩
    match j with
    | 0 => simp at hf; subst hf; exact ⟨_, _, rfl, rfl, rfl, rfl, by decide, rfl, rfl⟩
    | 1 => simp at hf; subst hf; exact ⟨_, _, rfl, rfl, rfl, rfl, by decide, rfl, rfl⟩
    | 2 => simp at hf; subst hf; exact ⟨_, _, rfl, rfl, rfl, rfl, by decide, rfl, rfl⟩
    | 3 => simp at hf; subst hf; exact ⟨_, _, rfl, rfl, rfl, rfl, by decide, rfl, rfl⟩
    | j + 4 => simp at hf
  · exact ⟨_, _, _, rfl, rfl, rfl, rfl, rfl, rfl, rfl, by decide, rfl, rfl⟩
  · refine ⟨_, _, _, rfl, rfl, rfl, rfl, rfl, rfl, rfl, by decide, rfl, _, rfl, rfl, fun j f hf => ?_⟩
    match j with
    | 0 => simp at hf; subst hf; exact ⟨_, _, rfl, rfl, rfl, rfl, by decide, rfl, rfl⟩
    | 1 => simp at hf; subst hf; exact ⟨_, _, rfl, rfl, rfl, rfl, by decide, rfl, rfl⟩
    | 2 => simp at hf; subst hf; exact ⟨_, _, rfl, rfl, rfl, rfl, by decide, rfl, rfl⟩
    | 3 => simp at hf; subst hf; exact ⟨_, _, rfl, rfl, rfl, rfl, by decide, rfl, rfl⟩
    | j + 4 => simp at hf
  · refine ⟨_, _, _, rfl, rfl, rfl, rfl, rfl, rfl, rfl, by decide, rfl, _, rfl, rfl, fun j f hf => ?_⟩
    match j with
    | 0 => simp at hf; subst hf; exact ⟨_, _, rfl, rfl, rfl, rfl, by decide, rfl, rfl⟩
    | 1 => simp at hf; subst hf; exact ⟨_, _, rfl, rfl, rfl, rfl, by decide, rfl, rfl⟩
    | 2 => simp at hf; subst hf; exact ⟨_, _, rfl, rfl, rfl, rfl, by decide, rfl, rfl⟩
    | 3 => simp at hf; subst hf; exact ⟨_, _, rfl, rfl, rfl, rfl, by decide, rfl, rfl⟩
    | j + 4 => simp at hf
  · refine ⟨_, _, _, rfl, rfl, rfl, rfl, rfl, rfl, rfl, by decide, rfl, _, rfl, rfl, fun j f hf => ?_⟩
    match j with
    | 0 => simp at hf; subst hf; exact ⟨_, _, rfl, rfl, rfl, rfl, by decide, rfl, rfl⟩
    | 1 => simp at hf; subst hf; exact ⟨_, _, rfl, rfl, rfl, rfl, by decide, rfl, rfl⟩
    | 2 => simp at hf; subst hf; exact ⟨_, _, rfl, rfl, rfl, rfl, by decide, rfl, rfl⟩
    | 3 => simp at hf; subst hf; exact ⟨_, _, rfl, rfl, rfl, rfl, by decide, rfl, rfl⟩
    | j + 4 => simp at hf
  · refine ⟨_, _, _, rfl, rfl, rfl, rfl, rfl, rfl, rfl, by decide, rfl, _, rfl, rfl, fun j f hf => ?_⟩
    match j with
    | 0 => simp at hf; subst hf; exact ⟨_, _, rfl, rfl, rfl, rfl, by decide, rfl, rfl⟩
    | 1 => simp at hf; subst hf; exact ⟨_, _, rfl, rfl, rfl, rfl, by decide, rfl, rfl⟩
    | 2 => simp at hf; subst hf; exact ⟨_, _, rfl, rfl, rfl, rfl, by decide, rfl, rfl⟩
    | 3 => simp at hf; subst hf; exact ⟨_, _, rfl, rfl, rfl, rfl, by decide, rfl, rfl⟩
    | j + 4 => simp at hf
abbrev vi : V := .one (.c (.int .i64 0))
abbrev vy : V := .one (.c (.int .u8 0))
abbrev vb : V := .one (.c (.bool false))
abbrev vl : V := .one (.c (.sl []))
abbrev vs : V := .one (.c (.str []))
abbrev vj : V := .one .junk

def F8 : FA := { n := 34, sh := [vl, vs, vj, vj, vb, vi, vi, vl, vi, vs, vi, vb, vl, vi, vi, vi, vb, vl, vl, vs, vi, vl, vl, vl, vs, vi, vi, vi, vb, vl, vl, vl, vb, vb], obs := [], tk := [13, 15, 24, 26, 27, 29, 30], keep := [(0, [0, 1]), (1, [0, 1, 11]), (2, [4]), (3, [0, 1, 5]), (4, [0, 1, 5]), (5, [0, 1, 16]), (6, [4]), (7, [0, 1, 6]), (8, [0, 1, 6, 7]), (9, [0, 6, 7, 8]), (10, [0, 7, 28]), (11, [4]), (12, [33]), (13, [4]), (14, [4])] }
def F36 : FA := { n := 27, sh := [vl, vi, vj, vj, vi, vi, vi, vl, vi, vi, vi, vb, vi, vl, vi, vb, vi, vi, vl, vi, .one (.cp [.str [], .int .i64 0, .sl [], .sl [], .bool false, .sl [], .sl []]), .one (.ag [.str [], .int .i64 0, .sl [], .sl [], .bool false, .sl [], .sl []]), vi, vi, vi, vb, vi], obs := [], tk := [6, 16, 22, 26], keep := [(0, [0, 1]), (1, [0, 1]), (2, [0, 1, 11]), (3, [4]), (4, [0, 1, 5]), (5, [0, 1, 5, 15]), (6, [0, 1, 5]), (7, [0, 1, 5]), (8, [0, 1, 5, 25]), (9, [4]), (10, [4])] }
def F37 : FA := { n := 16, sh := [vl, vs, vj, vj, vi, vi, vl, vs, vi, vi, vb, vl, vi, .one (.cp [.str [], .int .i64 0, .sl [], .sl [], .bool false, .sl [], .sl []]), .one (.cp [.int .i64 0, .sl [], .sl [], .bool false, .sl [], .sl []]), vi], obs := [], tk := [7, 11, 12], keep := [(0, [0, 1]), (1, [0, 5]), (2, [0, 5, 10]), (3, [4]), (4, [4])] }
def F38 : FA := { n := 23, sh := [vl, vj, vl, vl, vi, vl, vi, vl, vi, vl, vi, vb, vi, vi, .one (.al (.s 3 0 0) []), vi, vl, vi, .one (.cp [.str [], .int .i64 0, .sl [], .sl [], .bool false, .sl [], .sl []]), .one (.ag [.str [], .int .i64 0, .sl [], .sl [], .bool false, .sl [], .sl []]), .one (.ag [.str [], .int .i64 0, .sl [], .sl [], .bool false, .sl [], .sl []]), .one (.pp (.s 3 0 0) [] 0 0), vl], obs := [], al := [14], tk := [12, 22], keep := [(0, [0]), (1, [0, 3]), (2, [0, 3, 4]), (3, [0, 3, 4, 11]), (4, [0, 3, 4]), (5, [0, 3, 4]), (6, [2])] }
def F39 : FA := { n := 16, sh := [vl, vs, vj, vj, vi, vi, vl, vs, vi, vi, vb, vl, vi, .one (.cp [.str [], .int .i64 0, .sl [], .sl [], .bool false, .sl [], .sl []]), .one (.cp [.int .i64 0, .sl [], .sl [], .bool false, .sl [], .sl []]), vi], obs := [], tk := [7, 11, 12], keep := [(0, [0, 1]), (1, [0, 5]), (2, [0, 5, 10]), (3, [4]), (4, [4])] }
def F40 : FA := { n := 27, sh := [vl, vl, vj, vj, vb, vi, vl, vi, vl, vi, vb, vi, vl, vi, vb, vi, vi, vl, vi, .one (.cp [.str [], .int .i64 0, .sl [], .sl [], .bool false, .sl [], .sl []]), .one (.ag [.str [], .int .i64 0, .sl [], .sl [], .bool false, .sl [], .sl []]), vl, vi, .one (.cp [.str [], .int .i64 0, .sl [], .sl [], .bool false, .sl [], .sl []]), .one (.ag [.str [], .int .i64 0, .sl [], .sl [], .bool false, .sl [], .sl []]), vb, vb], obs := [], tk := [15], keep := [(0, [0, 1]), (1, [0, 1, 10]), (2, [4]), (3, [0, 1, 5]), (4, [0, 1, 5, 14]), (5, [0, 1, 5]), (6, [0, 1, 5, 26]), (7, [4]), (8, [4])] }
def F80 : FA := { n := 25, sh := [.one (.ag [.str [], .int .i64 0, .sl [], .sl [], .bool false, .sl [], .sl []]), vi, .one (.ptr 2 0), vj, vi, vi, .one (.ptr 2 0), vs, vi, vi, vi, vb, .one (.ptr 2 2), .one (.ag [.sl [], .sl []]), vi, vi, vi, vb, .one (.ptr 2 5), .one (.ag [.sl [], .sl []]), vi, vi, vi, vb, vi], obs := [(2, [.str [], .int .i64 0, .sl [], .sl [], .bool false, .sl [], .sl []])], tk := [5, 7, 13, 14, 19, 20, 24], keep := [(0, [1, 2]), (1, [1, 2]), (2, [1, 2, 11]), (3, [4]), (4, [1, 2]), (5, [1, 2, 17]), (6, [4]), (7, [1]), (8, [1, 23]), (9, [4]), (10, [4])] }
def F81 : FA := { n := 20, sh := [vl, vs, vj, vj, vi, vi, vi, vl, vi, vb, vi, vi, vl, vi, .one (.cp [.str [], .int .i64 0, .sl [], .sl [], .bool false, .sl [], .sl []]), .one (.cp [.str [], .int .i64 0, .sl [], .sl [], .bool false, .sl [], .sl []]), vs, vs, vb, vi], obs := [], tk := [10, 19], keep := [(0, [0, 1]), (1, [0, 1, 5]), (2, [0, 1, 5, 9]), (3, [0, 1, 5]), (4, [0, 1, 5, 18]), (5, [4]), (6, [4])] }
def F82 : FA := { n := 22, sh := [.one (.ag [.str [], .int .i64 0, .sl [], .sl [], .bool false, .sl [], .sl []]), .one (.ptr 1 0), .one (.ptr 2 0), .one (.ptr 3 0), .one (.ptr 1 0), vs, .one (.ptr 3 0), .one (.ptr 1 1), vi, .one (.ptr 3 1), .one (.ptr 1 2), .one (.ag [.sl [], .sl []]), .one (.ag [.sl [], .sl []]), .one (.ptr 3 2), .one (.ptr 1 4), vb, .one (.ptr 3 4), .one (.ptr 1 5), .one (.ag [.sl [], .sl []]), .one (.ag [.sl [], .sl []]), .one (.ptr 3 5), .one (.ag [.str [], .int .i64 0, .sl [], .sl [], .bool false, .sl [], .sl []])], obs := [(1, [.str [], .int .i64 0, .sl [], .sl [], .bool false, .sl [], .sl []]), (2, [.str [], .int .i64 0, .sl [], .sl [], .bool false, .sl [], .sl []]), (3, [.str [], .int .i64 0, .sl [], .sl [], .bool false, .sl [], .sl []])], tk := [5, 8, 11, 15, 18, 21], keep := [(0, [1, 2]), (1, [1, 2, 3]), (2, [1, 2, 3]), (3, [1, 2, 3]), (4, [1, 2, 3]), (5, [1, 2, 3]), (6, [2, 3]), (7, [2])] }
def F83 : FA := { n := 8, sh := [vl, vs, vj, .one (.ptr 3 0), vi, vl, .one (.fn 114 [(3, 0)]), vi], obs := [(3, [.str []])], tk := [5], keep := [(0, [0, 3]), (1, [4])] }
def F84 : FA := { n := 32, sh := [.one (.ag [.str [], .int .i64 0, .sl [], .sl [], .bool false, .sl [], .sl []]), .one (.ag [.str [], .int .i64 0, .sl [], .sl [], .bool false, .sl [], .sl []]), .one (.ptr 2 0), .one (.ptr 3 0), vb, .one (.ptr 2 0), vs, .one (.ptr 3 0), vs, vb, .one (.ptr 2 1), vi, .one (.ptr 3 1), vi, vb, .one (.ptr 2 2), .one (.ag [.sl [], .sl []]), .one (.ptr 3 2), .one (.ag [.sl [], .sl []]), vb, vb, .one (.ptr 2 4), vb, .one (.ptr 3 4), vb, vb, .one (.ptr 2 5), .one (.ag [.sl [], .sl []]), .one (.ptr 3 5), .one (.ag [.sl [], .sl []]), vb, vb], obs := [(2, [.str [], .int .i64 0, .sl [], .sl [], .bool false, .sl [], .sl []]), (3, [.str [], .int .i64 0, .sl [], .sl [], .bool false, .sl [], .sl []])], tk := [6, 8, 11, 13, 16, 18, 22, 24, 27, 29], keep := [(0, [2, 3]), (1, [2, 3, 9]), (2, [4]), (3, [2, 3, 14]), (4, [4]), (5, [2, 3, 20]), (6, [4]), (7, [2, 3, 25]), (8, [4]), (9, [31]), (10, [4]), (11, [4])] }
def F111 : FA := { n := 18, sh := [.one (.ag [.sl [], .sl []]), vi, .one (.ptr 2 0), vj, vi, .one (.ptr 2 0), vl, vi, vi, vi, vb, .one (.ptr 2 1), vl, vi, vi, vi, vb, vi], obs := [(2, [.sl [], .sl []])], tk := [6, 7, 12, 13, 17], keep := [(0, [1, 2]), (1, [1, 2]), (2, [1, 2, 10]), (3, [4]), (4, [1]), (5, [1, 16]), (6, [4]), (7, [4])] }
def F112 : FA := { n := 13, sh := [.one (.ag [.sl [], .sl []]), .one (.ptr 1 0), .one (.ptr 2 0), .one (.ptr 3 0), .one (.ptr 1 0), vl, vl, .one (.ptr 3 0), .one (.ptr 1 1), vl, vl, .one (.ptr 3 1), .one (.ag [.sl [], .sl []])], obs := [(1, [.sl [], .sl []]), (2, [.sl [], .sl []]), (3, [.sl [], .sl []])], tk := [5, 9, 12], keep := [(0, [1, 2]), (1, [1, 2, 3]), (2, [1, 2, 3]), (3, [2, 3]), (4, [2])] }
def F113 : FA := { n := 19, sh := [vl, .one (.fn 114 [(1000000, 0)]), vj, vj, vi, vi, vl, vi, vi, vb, vi, .one (.fn 114 [(1000000, 0)]), vl, vi, .one (.cp [.str [], .int .i64 0, .sl [], .sl [], .bool false, .sl [], .sl []]), .one (.ag [.str [], .int .i64 0, .sl [], .sl [], .bool false, .sl [], .sl []]), vb, vi, vi], obs := [(1000000, [.str []])], tk := [8, 17], keep := [(0, [0, 1]), (1, [0, 1, 7, 8]), (2, [0, 1, 7, 8, 9]), (3, [0, 1, 5, 7, 8]), (4, [0, 1, 5, 7, 8, 16]), (5, [4]), (6, [0, 1, 7, 8]), (7, [4])] }
def F114 : FA := { n := 8, sh := [.one (.ag [.str [], .int .i64 0, .sl [], .sl [], .bool false, .sl [], .sl []]), .one (.ptr 1000000 0), .one (.ptr 2 0), vb, .one (.ptr 2 0), vs, vs, vb], obs := [(2, [.str [], .int .i64 0, .sl [], .sl [], .bool false, .sl [], .sl []]), (1000000, [.str []])], tk := [5], keep := [(0, [1, 2]), (1, [3])] }
def F115 : FA := { n := 17, sh := [.one (.ag [.sl [], .sl []]), .one (.ag [.sl [], .sl []]), .one (.ptr 2 0), .one (.ptr 3 0), vb, .one (.ptr 2 0), vl, .one (.ptr 3 0), vl, vb, vb, .one (.ptr 2 1), vl, .one (.ptr 3 1), vl, vb, vb], obs := [(2, [.sl [], .sl []]), (3, [.sl [], .sl []])], tk := [6, 8, 12, 14], keep := [(0, [2, 3]), (1, [2, 3, 10]), (2, [4]), (3, [16]), (4, [4]), (5, [4])] }
def F130 : FA := { n := 27, sh := [vl, vi, vj, vj, vi, vi, vi, vl, vi, vi, vi, vb, vi, vl, vi, vb, vi, vi, vl, vi, .one (.cp [.str [], .int .i64 0, .int .i64 0, .sl []]), .one (.ag [.str [], .int .i64 0, .int .i64 0, .sl []]), vi, vi, vi, vb, vi], obs := [], tk := [6, 16, 22, 26], keep := [(0, [0, 1]), (1, [0, 1]), (2, [0, 1, 11]), (3, [4]), (4, [0, 1, 5]), (5, [0, 1, 5, 15]), (6, [0, 1, 5]), (7, [0, 1, 5]), (8, [0, 1, 5, 25]), (9, [4]), (10, [4])] }
def F131 : FA := { n := 27, sh := [vl, vi, vj, vj, vi, vi, vi, vl, vi, vi, vi, vb, vi, vl, vi, vb, vi, vi, vl, vi, .one (.cp [.int .i64 0, .int .i64 0, .str [], .sl []]), .one (.ag [.int .i64 0, .int .i64 0, .str [], .sl []]), vi, vi, vi, vb, vi], obs := [], tk := [6, 16, 22, 26], keep := [(0, [0, 1]), (1, [0, 1]), (2, [0, 1, 11]), (3, [4]), (4, [0, 1, 5]), (5, [0, 1, 5, 15]), (6, [0, 1, 5]), (7, [0, 1, 5]), (8, [0, 1, 5, 25]), (9, [4]), (10, [4])] }
def F132 : FA := { n := 23, sh := [vl, vj, vl, vl, vi, vl, vi, vl, vi, vl, vi, vb, vi, vi, .one (.al (.s 3 0 0) []), vi, vl, vi, .one (.cp [.str [], .int .i64 0, .int .i64 0, .sl []]), .one (.ag [.str [], .int .i64 0, .int .i64 0, .sl []]), .one (.ag [.str [], .int .i64 0, .int .i64 0, .sl []]), .one (.pp (.s 3 0 0) [] 0 0), vl], obs := [], al := [14], tk := [12, 22], keep := [(0, [0]), (1, [0, 3]), (2, [0, 3, 4]), (3, [0, 3, 4, 11]), (4, [0, 3, 4]), (5, [0, 3, 4]), (6, [2])] }
def F133 : FA := { n := 23, sh := [vl, vj, vl, vl, vi, vl, vi, vl, vi, vl, vi, vb, vi, vi, .one (.al (.s 3 0 0) []), vi, vl, vi, .one (.cp [.int .i64 0, .int .i64 0, .str [], .sl []]), .one (.ag [.int .i64 0, .int .i64 0, .str [], .sl []]), .one (.ag [.int .i64 0, .int .i64 0, .str [], .sl []]), .one (.pp (.s 3 0 0) [] 0 0), vl], obs := [], al := [14], tk := [12, 22], keep := [(0, [0]), (1, [0, 3]), (2, [0, 3, 4]), (3, [0, 3, 4, 11]), (4, [0, 3, 4]), (5, [0, 3, 4]), (6, [2])] }
def F134 : FA := { n := 27, sh := [vl, vl, vj, vj, vb, vi, vl, vi, vl, vi, vb, vi, vl, vi, vb, vi, vi, vl, vi, .one (.cp [.str [], .int .i64 0, .int .i64 0, .sl []]), .one (.ag [.str [], .int .i64 0, .int .i64 0, .sl []]), vl, vi, .one (.cp [.str [], .int .i64 0, .int .i64 0, .sl []]), .one (.ag [.str [], .int .i64 0, .int .i64 0, .sl []]), vb, vb], obs := [], tk := [15], keep := [(0, [0, 1]), (1, [0, 1, 10]), (2, [4]), (3, [0, 1, 5]), (4, [0, 1, 5, 14]), (5, [0, 1, 5]), (6, [0, 1, 5, 26]), (7, [4]), (8, [4])] }
def F135 : FA := { n := 27, sh := [vl, vl, vj, vj, vb, vi, vl, vi, vl, vi, vb, vi, vl, vi, vb, vi, vi, vl, vi, .one (.cp [.int .i64 0, .int .i64 0, .str [], .sl []]), .one (.ag [.int .i64 0, .int .i64 0, .str [], .sl []]), vl, vi, .one (.cp [.int .i64 0, .int .i64 0, .str [], .sl []]), .one (.ag [.int .i64 0, .int .i64 0, .str [], .sl []]), vb, vb], obs := [], tk := [15], keep := [(0, [0, 1]), (1, [0, 1, 10]), (2, [4]), (3, [0, 1, 5]), (4, [0, 1, 5, 14]), (5, [0, 1, 5]), (6, [0, 1, 5, 26]), (7, [4]), (8, [4])] }
def F140 : FA := { n := 19, sh := [.one (.ag [.str [], .int .i64 0, .int .i64 0, .sl []]), vi, .one (.ptr 2 0), vj, vi, vi, .one (.ptr 2 0), vs, vi, vi, vi, vb, .one (.ptr 2 3), vl, vi, vi, vi, vb, vi], obs := [(2, [.str [], .int .i64 0, .int .i64 0, .sl []])], tk := [5, 7, 13, 14, 18], keep := [(0, [1, 2]), (1, [1, 2]), (2, [1, 2, 11]), (3, [4]), (4, [1]), (5, [1, 17]), (6, [4]), (7, [4])] }
def F141 : FA := { n := 19, sh := [.one (.ag [.int .i64 0, .int .i64 0, .str [], .sl []]), vi, .one (.ptr 2 0), vj, vi, vi, .one (.ptr 2 2), vs, vi, vi, vi, vb, .one (.ptr 2 3), vl, vi, vi, vi, vb, vi], obs := [(2, [.int .i64 0, .int .i64 0, .str [], .sl []])], tk := [5, 7, 13, 14, 18], keep := [(0, [1, 2]), (1, [1, 2]), (2, [1, 2, 11]), (3, [4]), (4, [1]), (5, [1, 17]), (6, [4]), (7, [4])] }
def F142 : FA := { n := 18, sh := [.one (.ag [.str [], .int .i64 0, .int .i64 0, .sl []]), .one (.ptr 1 0), .one (.ptr 2 0), .one (.ptr 3 0), .one (.ptr 1 0), vs, .one (.ptr 3 0), .one (.ptr 1 1), vi, .one (.ptr 3 1), .one (.ptr 1 2), vi, .one (.ptr 3 2), .one (.ptr 1 3), vl, vl, .one (.ptr 3 3), .one (.ag [.str [], .int .i64 0, .int .i64 0, .sl []])], obs := [(1, [.str [], .int .i64 0, .int .i64 0, .sl []]), (2, [.str [], .int .i64 0, .int .i64 0, .sl []]), (3, [.str [], .int .i64 0, .int .i64 0, .sl []])], tk := [5, 8, 11, 14, 17], keep := [(0, [1, 2]), (1, [1, 2, 3]), (2, [1, 2, 3]), (3, [1, 2, 3]), (4, [1, 2, 3]), (5, [2, 3]), (6, [2])] }
def F143 : FA := { n := 18, sh := [.one (.ag [.int .i64 0, .int .i64 0, .str [], .sl []]), .one (.ptr 1 0), .one (.ptr 2 0), .one (.ptr 3 0), .one (.ptr 1 0), vi, .one (.ptr 3 0), .one (.ptr 1 1), vi, .one (.ptr 3 1), .one (.ptr 1 2), vs, .one (.ptr 3 2), .one (.ptr 1 3), vl, vl, .one (.ptr 3 3), .one (.ag [.int .i64 0, .int .i64 0, .str [], .sl []])], obs := [(1, [.int .i64 0, .int .i64 0, .str [], .sl []]), (2, [.int .i64 0, .int .i64 0, .str [], .sl []]), (3, [.int .i64 0, .int .i64 0, .str [], .sl []])], tk := [5, 8, 11, 14, 17], keep := [(0, [1, 2]), (1, [1, 2, 3]), (2, [1, 2, 3]), (3, [1, 2, 3]), (4, [1, 2, 3]), (5, [2, 3]), (6, [2])] }
def F144 : FA := { n := 26, sh := [.one (.ag [.str [], .int .i64 0, .int .i64 0, .sl []]), .one (.ag [.str [], .int .i64 0, .int .i64 0, .sl []]), .one (.ptr 2 0), .one (.ptr 3 0), vb, .one (.ptr 2 0), vs, .one (.ptr 3 0), vs, vb, .one (.ptr 2 1), vi, .one (.ptr 3 1), vi, vb, .one (.ptr 2 2), vi, .one (.ptr 3 2), vi, vb, .one (.ptr 2 3), vl, .one (.ptr 3 3), vl, vb, vb], obs := [(2, [.str [], .int .i64 0, .int .i64 0, .sl []]), (3, [.str [], .int .i64 0, .int .i64 0, .sl []])], tk := [6, 8, 11, 13, 16, 18, 21, 23], keep := [(0, [2, 3]), (1, [2, 3, 9]), (2, [4]), (3, [2, 3, 14]), (4, [4]), (5, [2, 3, 19]), (6, [4]), (7, [25]), (8, [4]), (9, [4])] }
def F145 : FA := { n := 26, sh := [.one (.ag [.int .i64 0, .int .i64 0, .str [], .sl []]), .one (.ag [.int .i64 0, .int .i64 0, .str [], .sl []]), .one (.ptr 2 0), .one (.ptr 3 0), vb, .one (.ptr 2 0), vi, .one (.ptr 3 0), vi, vb, .one (.ptr 2 1), vi, .one (.ptr 3 1), vi, vb, .one (.ptr 2 2), vs, .one (.ptr 3 2), vs, vb, .one (.ptr 2 3), vl, .one (.ptr 3 3), vl, vb, vb], obs := [(2, [.int .i64 0, .int .i64 0, .str [], .sl []]), (3, [.int .i64 0, .int .i64 0, .str [], .sl []])], tk := [6, 8, 11, 13, 16, 18, 21, 23], keep := [(0, [2, 3]), (1, [2, 3, 9]), (2, [4]), (3, [2, 3, 14]), (4, [4]), (5, [2, 3, 19]), (6, [4]), (7, [25]), (8, [4]), (9, [4])] }
def F146 : FA := { n := 27, sh := [vl, vi, vj, vj, vi, vi, vi, vl, vi, vi, vi, vb, vi, vl, vi, vb, vi, vi, vl, vi, .one (.cp [.int .i64 0, .int .i64 0, .str [], .int .i64 0]), .one (.ag [.int .i64 0, .int .i64 0, .str [], .int .i64 0]), vi, vi, vi, vb, vi], obs := [], tk := [6, 16, 22, 26], keep := [(0, [0, 1]), (1, [0, 1]), (2, [0, 1, 11]), (3, [4]), (4, [0, 1, 5]), (5, [0, 1, 5, 15]), (6, [0, 1, 5]), (7, [0, 1, 5]), (8, [0, 1, 5, 25]), (9, [4]), (10, [4])] }
def F147 : FA := { n := 23, sh := [vl, vj, vl, vl, vi, vl, vi, vl, vi, vl, vi, vb, vi, vi, .one (.al (.s 3 0 0) []), vi, vl, vi, .one (.cp [.int .i64 0, .int .i64 0, .str [], .int .i64 0]), .one (.ag [.int .i64 0, .int .i64 0, .str [], .int .i64 0]), .one (.ag [.int .i64 0, .int .i64 0, .str [], .int .i64 0]), .one (.pp (.s 3 0 0) [] 0 0), vl], obs := [], al := [14], tk := [12, 22], keep := [(0, [0]), (1, [0, 3]), (2, [0, 3, 4]), (3, [0, 3, 4, 11]), (4, [0, 3, 4]), (5, [0, 3, 4]), (6, [2])] }
def F148 : FA := { n := 27, sh := [vl, vl, vj, vj, vb, vi, vl, vi, vl, vi, vb, vi, vl, vi, vb, vi, vi, vl, vi, .one (.cp [.int .i64 0, .int .i64 0, .str [], .int .i64 0]), .one (.ag [.int .i64 0, .int .i64 0, .str [], .int .i64 0]), vl, vi, .one (.cp [.int .i64 0, .int .i64 0, .str [], .int .i64 0]), .one (.ag [.int .i64 0, .int .i64 0, .str [], .int .i64 0]), vb, vb], obs := [], tk := [15], keep := [(0, [0, 1]), (1, [0, 1, 10]), (2, [4]), (3, [0, 1, 5]), (4, [0, 1, 5, 14]), (5, [0, 1, 5]), (6, [0, 1, 5, 26]), (7, [4]), (8, [4])] }
def F149 : FA := { n := 13, sh := [.one (.ag [.int .i64 0, .int .i64 0, .str [], .int .i64 0]), vi, .one (.ptr 2 0), vj, vi, vi, .one (.ptr 2 2), vs, vi, vi, vi, vb, vi], obs := [(2, [.int .i64 0, .int .i64 0, .str [], .int .i64 0])], tk := [5, 7, 12], keep := [(0, [1, 2]), (1, [1]), (2, [1, 11]), (3, [4]), (4, [4])] }
def F150 : FA := { n := 17, sh := [.one (.ag [.int .i64 0, .int .i64 0, .str [], .int .i64 0]), .one (.ptr 1 0), .one (.ptr 2 0), .one (.ptr 3 0), .one (.ptr 1 0), vi, .one (.ptr 3 0), .one (.ptr 1 1), vi, .one (.ptr 3 1), .one (.ptr 1 2), vs, .one (.ptr 3 2), .one (.ptr 1 3), vi, .one (.ptr 3 3), .one (.ag [.int .i64 0, .int .i64 0, .str [], .int .i64 0])], obs := [(1, [.int .i64 0, .int .i64 0, .str [], .int .i64 0]), (2, [.int .i64 0, .int .i64 0, .str [], .int .i64 0]), (3, [.int .i64 0, .int .i64 0, .str [], .int .i64 0])], tk := [5, 8, 11, 14, 16], keep := [(0, [1, 2]), (1, [1, 2, 3]), (2, [1, 2, 3]), (3, [1, 2, 3]), (4, [1, 2, 3]), (5, [2, 3]), (6, [2])] }
def F151 : FA := { n := 25, sh := [.one (.ag [.int .i64 0, .int .i64 0, .str [], .int .i64 0]), .one (.ag [.int .i64 0, .int .i64 0, .str [], .int .i64 0]), .one (.ptr 2 0), .one (.ptr 3 0), vb, .one (.ptr 2 0), vi, .one (.ptr 3 0), vi, vb, .one (.ptr 2 1), vi, .one (.ptr 3 1), vi, vb, .one (.ptr 2 2), vs, .one (.ptr 3 2), vs, vb, .one (.ptr 2 3), vi, .one (.ptr 3 3), vi, vb], obs := [(2, [.int .i64 0, .int .i64 0, .str [], .int .i64 0]), (3, [.int .i64 0, .int .i64 0, .str [], .int .i64 0])], tk := [6, 8, 11, 13, 16, 18, 21, 23], keep := [(0, [2, 3]), (1, [2, 3, 9]), (2, [4]), (3, [2, 3, 14]), (4, [4]), (5, [2, 3, 19]), (6, [4]), (7, [24]), (8, [4]), (9, [4])] }
def An : FuncId → FA
  | 8 => F8
  | 36 => F36
  | 37 => F37
  | 38 => F38
  | 39 => F39
  | 40 => F40
  | 80 => F80
  | 81 => F81
  | 82 => F82
  | 83 => F83
  | 84 => F84
  | 111 => F111
  | 112 => F112
  | 113 => F113
  | 114 => F114
  | 115 => F115
  | 130 => F130
  | 131 => F131
  | 132 => F132
  | 133 => F133
  | 134 => F134
  | 135 => F135
  | 140 => F140
  | 141 => F141
  | 142 => F142
  | 143 => F143
  | 144 => F144
  | 145 => F145
  | 146 => F146
  | 147 => F147
  | 148 => F148
  | 149 => F149
  | 150 => F150
  | 151 => F151
  | _ => { n := 0, sh := [], obs := [] }
def Sgs : FuncId → List Sg
  | 8 => [{ bi := ⟨[(0, [[.F]]), (1, [[.S]])], []⟩, bo := ⟨[(0, [[.S]])], []⟩, np := 2, ext := false }]
  | 36 => [{ bi := ⟨[(0, [[.F]]), (1, [[.S]])], []⟩, bo := ⟨[(0, [[.S]])], []⟩, np := 2, ext := false }]
  | 37 => [{ bi := ⟨[(0, [[.F]]), (1, [[.S]])], []⟩, bo := ⟨[(0, [[.S]])], []⟩, np := 2, ext := false }]
  | 38 => [{ bi := ⟨[(0, [[.F]])], []⟩, bo := ⟨[(0, [[.U 7]])], []⟩, np := 1, ext := false }]
  | 39 => [{ bi := ⟨[(0, [[.F]]), (1, [[.S]])], []⟩, bo := ⟨[(0, [[.S]])], []⟩, np := 2, ext := false }]
  | 40 => [{ bi := ⟨[(0, [[.F]]), (1, [[.F]])], []⟩, bo := ⟨[(0, [[.S]])], []⟩, np := 2, ext := false }]
  | 80 => [{ bi := ⟨[(0, [[.S, .S, .F, .F, .S, .F, .F]]), (1, [[.S]])], []⟩, bo := ⟨[(0, [[.S]])], []⟩, np := 2, ext := false }]
  | 81 => [{ bi := ⟨[(0, [[.F]]), (1, [[.S]])], []⟩, bo := ⟨[(0, [[.S]])], []⟩, np := 2, ext := false }]
  | 82 => [{ bi := ⟨[(0, [[.S, .S, .F, .F, .S, .F, .F]])], []⟩, bo := ⟨[(0, [[.S, .S, .U 4, .U 4, .S, .U 4, .U 4]])], []⟩, np := 1, ext := false }]
  | 83 => [{ bi := ⟨[(0, [[.F]]), (1, [[.S]])], []⟩, bo := ⟨[(0, [[.S]])], []⟩, np := 2, ext := false }]
  | 84 => [{ bi := ⟨[(0, [[.S, .S, .F, .F, .S, .F, .F]]), (1, [[.S, .S, .F, .F, .S, .F, .F]])], []⟩, bo := ⟨[(0, [[.S]])], []⟩, np := 2, ext := false }]
  | 111 => [{ bi := ⟨[(0, [[.F, .F]]), (1, [[.S]])], []⟩, bo := ⟨[(0, [[.S]])], []⟩, np := 2, ext := false }]
  | 112 => [{ bi := ⟨[(0, [[.F, .F]])], []⟩, bo := ⟨[(0, [[.U 4, .U 4]])], []⟩, np := 1, ext := false }]
  | 113 => [{ bi := ⟨[(0, [[.F]]), (1, [[.S]])], [(1000000, [.S])]⟩, bo := ⟨[(0, [[.S]])], [(1000000, [.S])]⟩, np := 2, ext := false, no := 1 }]
  | 114 => [{ bi := ⟨[(0, [[.S, .S, .F, .F, .S, .F, .F]]), (1, [[.S]])], [(1000000, [.S])]⟩, bo := ⟨[(0, [[.S]])], [(1000000, [.S])]⟩, np := 2, ext := false, no := 1 }]
  | 115 => [{ bi := ⟨[(0, [[.F, .F]]), (1, [[.F, .F]])], []⟩, bo := ⟨[(0, [[.S]])], []⟩, np := 2, ext := false }]
  | 130 => [{ bi := ⟨[(0, [[.F]]), (1, [[.S]])], []⟩, bo := ⟨[(0, [[.S]])], []⟩, np := 2, ext := false }]
  | 131 => [{ bi := ⟨[(0, [[.F]]), (1, [[.S]])], []⟩, bo := ⟨[(0, [[.S]])], []⟩, np := 2, ext := false }]
  | 132 => [{ bi := ⟨[(0, [[.F]])], []⟩, bo := ⟨[(0, [[.U 4]])], []⟩, np := 1, ext := false }]
  | 133 => [{ bi := ⟨[(0, [[.F]])], []⟩, bo := ⟨[(0, [[.U 4]])], []⟩, np := 1, ext := false }]
  | 134 => [{ bi := ⟨[(0, [[.F]]), (1, [[.F]])], []⟩, bo := ⟨[(0, [[.S]])], []⟩, np := 2, ext := false }]
  | 135 => [{ bi := ⟨[(0, [[.F]]), (1, [[.F]])], []⟩, bo := ⟨[(0, [[.S]])], []⟩, np := 2, ext := false }]
  | 140 => [{ bi := ⟨[(0, [[.S, .S, .S, .F]]), (1, [[.S]])], []⟩, bo := ⟨[(0, [[.S]])], []⟩, np := 2, ext := false }]
  | 141 => [{ bi := ⟨[(0, [[.S, .S, .S, .F]]), (1, [[.S]])], []⟩, bo := ⟨[(0, [[.S]])], []⟩, np := 2, ext := false }]
  | 142 => [{ bi := ⟨[(0, [[.S, .S, .S, .F]])], []⟩, bo := ⟨[(0, [[.S, .S, .S, .U 4]])], []⟩, np := 1, ext := false }]
  | 143 => [{ bi := ⟨[(0, [[.S, .S, .S, .F]])], []⟩, bo := ⟨[(0, [[.S, .S, .S, .U 4]])], []⟩, np := 1, ext := false }]
  | 144 => [{ bi := ⟨[(0, [[.S, .S, .S, .F]]), (1, [[.S, .S, .S, .F]])], []⟩, bo := ⟨[(0, [[.S]])], []⟩, np := 2, ext := false }]
  | 145 => [{ bi := ⟨[(0, [[.S, .S, .S, .F]]), (1, [[.S, .S, .S, .F]])], []⟩, bo := ⟨[(0, [[.S]])], []⟩, np := 2, ext := false }]
  | 146 => [{ bi := ⟨[(0, [[.F]]), (1, [[.S]])], []⟩, bo := ⟨[(0, [[.S]])], []⟩, np := 2, ext := false }]
  | 147 => [{ bi := ⟨[(0, [[.F]])], []⟩, bo := ⟨[(0, [[.U 4]])], []⟩, np := 1, ext := false }]
  | 148 => [{ bi := ⟨[(0, [[.F]]), (1, [[.F]])], []⟩, bo := ⟨[(0, [[.S]])], []⟩, np := 2, ext := false }]
  | 149 => [{ bi := ⟨[(0, [[.S, .S, .S, .S]]), (1, [[.S]])], []⟩, bo := ⟨[(0, [[.S]])], []⟩, np := 2, ext := false }]
  | 150 => [{ bi := ⟨[(0, [[.S, .S, .S, .S]])], []⟩, bo := ⟨[(0, [[.S, .S, .S, .S]])], []⟩, np := 1, ext := false }]
  | 151 => [{ bi := ⟨[(0, [[.S, .S, .S, .S]]), (1, [[.S, .S, .S, .S]])], []⟩, bo := ⟨[(0, [[.S]])], []⟩, np := 2, ext := false }]
  | _ => []
end Go.Own
