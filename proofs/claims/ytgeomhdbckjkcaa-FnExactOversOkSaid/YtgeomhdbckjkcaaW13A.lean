/- What is told of the functions: shapes and kinds. No conditions. -/
import Derived.Test.YtgeomhdbckjkcaaProg
import Derived.KernelRfl
import Derived.Test.YtgeomhdbckjkcaaOwn2
set_option linter.unusedVariables false
set_option linter.unusedSimpArgs false
set_option linter.unnecessarySimpa false
namespace Go.Own
open Go Go.Proofs
def τ : TypeId → Option TI
  | 3 => some { size := 1, bytes := 8, zero := [.int .i64 0], agg := false, kind := .int .i64 }
  | 4 => some { size := 1, bytes := 1, zero := [.bool false], agg := false, kind := .bool }
  | 5 => some { size := 1, bytes := 1, zero := [.int .u8 0], agg := false, kind := .int .u8 }
  | 9 => some { size := 1, bytes := 16, zero := [.str []], agg := false, kind := .str }
  | 22 => some { size := 1, bytes := 24, zero := [.sl []], agg := false, kind := .sl 114 }
  | 25 => some { size := 1, bytes := 24, zero := [.sl []], agg := false, kind := .sl 119 }
  | 59 => some { size := 1, bytes := 24, zero := [.sl []], agg := false, kind := .sl 88 }
  | 62 => some { size := 1, bytes := 24, zero := [.sl []], agg := false, kind := .sl 64 }
  | 64 => some { size := 4, bytes := 56, zero := [.int .i64 0, .int .i64 0, .str [], .sl []], agg := true, kind := .struct [(0, 1, false), (1, 1, false), (2, 1, false), (3, 1, false)] }
  | 88 => some { size := 4, bytes := 56, zero := [.int .i64 0, .int .i64 0, .str [], .sl []], agg := true, kind := .struct [(0, 1, false), (1, 1, false), (2, 1, false), (3, 1, false)] }
  | 98 => some { size := 1, bytes := 24, zero := [.sl []], agg := false, kind := .sl 9 }
  | 111 => some { size := 1, bytes := 24, zero := [.sl []], agg := false, kind := .sl 261 }
  | 112 => some { size := 1, bytes := 24, zero := [.sl []], agg := false, kind := .sl 3 }
  | 114 => some { size := 7, bytes := 104, zero := [.int .i64 0, .int .i64 0, .int .i64 0, .sl [], .sl [], .sl [], .bool false], agg := true, kind := .struct [(0, 1, false), (1, 1, false), (2, 1, false), (3, 1, false), (4, 1, false), (5, 1, false), (6, 1, false)] }
  | 117 => some { size := 1, bytes := 24, zero := [.sl []], agg := false, kind := .sl 122 }
  | 119 => some { size := 7, bytes := 104, zero := [.int .i64 0, .int .i64 0, .int .i64 0, .sl [], .sl [], .sl [], .bool false], agg := true, kind := .struct [(0, 1, false), (1, 1, false), (2, 1, false), (3, 1, false), (4, 1, false), (5, 1, false), (6, 1, false)] }
  | 122 => some { size := 7, bytes := 96, zero := [.str [], .str [], .int .i64 0, .int .i64 0, .str [], .sl [], .int .i64 0], agg := true, kind := .struct [(0, 1, false), (1, 1, false), (2, 4, true), (6, 1, false)] }
  | 261 => some { size := 7, bytes := 96, zero := [.str [], .str [], .int .i64 0, .int .i64 0, .str [], .sl [], .int .i64 0], agg := true, kind := .struct [(0, 1, false), (1, 1, false), (2, 4, true), (6, 1, false)] }
  | _ => none
set_option maxRecDepth 100000 in
theorem tables : Tables Try.prog τ := by
  intro t i h
  unfold τ at h
  split at h <;> (try cases h)
  · exact ⟨_, _, _, rfl, rfl, rfl, rfl, rfl, rfl, rfl, by decide, rfl, rfl⟩
  · exact ⟨_, _, _, rfl, rfl, rfl, rfl, rfl, rfl, rfl, by decide, rfl, rfl⟩
  · exact ⟨_, _, _, rfl, rfl, rfl, rfl, rfl, rfl, rfl, by decide, rfl, rfl⟩
  · exact ⟨_, _, _, rfl, rfl, rfl, rfl, rfl, rfl, rfl, by decide, rfl, rfl⟩
  · exact ⟨_, _, _, rfl, rfl, rfl, rfl, rfl, rfl, rfl, by decide, rfl, rfl⟩
  · exact ⟨_, _, _, rfl, rfl, rfl, rfl, rfl, rfl, rfl, by decide, rfl, rfl⟩
  · exact ⟨_, _, _, rfl, rfl, rfl, rfl, rfl, rfl, rfl, by decide, rfl, rfl⟩
  · exact ⟨_, _, _, rfl, rfl, rfl, rfl, rfl, rfl, rfl, by decide, rfl, rfl⟩
  · refine ⟨_, _, _, rfl, rfl, rfl, rfl, rfl, rfl, rfl, by decide, rfl, _, rfl, rfl, fun j f hf => ?_⟩
    match j with
    | 0 => simp at hf; subst hf; exact ⟨_, _, rfl, rfl, rfl, rfl, by decide, rfl, rfl⟩
    | 1 => simp at hf; subst hf; exact ⟨_, _, rfl, rfl, rfl, rfl, by decide, rfl, rfl⟩
    | 2 => simp at hf; subst hf; exact ⟨_, _, rfl, rfl, rfl, rfl, by decide, rfl, rfl⟩
    | 3 => simp at hf; subst hf; exact ⟨_, _, rfl, rfl, rfl, rfl, by decide, rfl, rfl⟩
    | j + 4 => simp at hf
  · refine ⟨_, _, _, rfl, rfl, rfl, rfl, rfl, rfl, rfl, by decide, rfl, _, rfl, rfl, fun j f hf => ?_⟩
    match j with
    | 0 => simp at hf; subst hf; exact ⟨_, _, rfl, rfl, rfl, rfl, by decide, rfl, rfl⟩
    | 1 => simp at hf; subst hf; exact ⟨_, _, rfl, rfl, rfl, rfl, by decide, rfl, rfl⟩
    | 2 => simp at hf; subst hf; exact ⟨_, _, rfl, rfl, rfl, rfl, by decide, rfl, rfl⟩
    | 3 => simp at hf; subst hf; exact ⟨_, _, rfl, rfl, rfl, rfl, by decide, rfl, rfl⟩
    | j + 4 => simp at hf
  · exact ⟨_, _, _, rfl, rfl, rfl, rfl, rfl, rfl, rfl, by decide, rfl, rfl⟩
  · exact ⟨_, _, _, rfl, rfl, rfl, rfl, rfl, rfl, rfl, by decide, rfl, rfl⟩
  · exact ⟨_, _, _, rfl, rfl, rfl, rfl, rfl, rfl, rfl, by decide, rfl, rfl⟩
  · refine ⟨_, _, _, rfl, rfl, rfl, rfl, rfl, rfl, rfl, by decide, rfl, _, rfl, rfl, fun j f hf => ?_⟩
    match j with
    | 0 => simp at hf; subst hf; exact ⟨_, _, rfl, rfl, rfl, rfl, by decide, rfl, rfl⟩
    | 1 => simp at hf; subst hf; exact ⟨_, _, rfl, rfl, rfl, rfl, by decide, rfl, rfl⟩
    | 2 => simp at hf; subst hf; exact ⟨_, _, rfl, rfl, rfl, rfl, by decide, rfl, rfl⟩
    | 3 => simp at hf; subst hf; exact ⟨_, _, rfl, rfl, rfl, rfl, by decide, rfl, rfl⟩
    | 4 => simp at hf; subst hf; exact ⟨_, _, rfl, rfl, rfl, rfl, by decide, rfl, rfl⟩
    | 5 => simp at hf; subst hf; exact ⟨_, _, rfl, rfl, rfl, rfl, by decide, rfl, rfl⟩
    | 6 => simp at hf; subst hf; exact ⟨_, _, rfl, rfl, rfl, rfl, by decide, rfl, rfl⟩
    | j + 7 => simp at hf
  · exact ⟨_, _, _, rfl, rfl, rfl, rfl, rfl, rfl, rfl, by decide, rfl, rfl⟩
  · refine ⟨_, _, _, rfl, rfl, rfl, rfl, rfl, rfl, rfl, by decide, rfl, _, rfl, rfl, fun j f hf => ?_⟩
    match j with
    | 0 => simp at hf; subst hf; exact ⟨_, _, rfl, rfl, rfl, rfl, by decide, rfl, rfl⟩
    | 1 => simp at hf; subst hf; exact ⟨_, _, rfl, rfl, rfl, rfl, by decide, rfl, rfl⟩
    | 2 => simp at hf; subst hf; exact ⟨_, _, rfl, rfl, rfl, rfl, by decide, rfl, rfl⟩
    | 3 => simp at hf; subst hf; exact ⟨_, _, rfl, rfl, rfl, rfl, by decide, rfl, rfl⟩
    | 4 => simp at hf; subst hf; exact ⟨_, _, rfl, rfl, rfl, rfl, by decide, rfl, rfl⟩
    | 5 => simp at hf; subst hf; exact ⟨_, _, rfl, rfl, rfl, rfl, by decide, rfl, rfl⟩
    | 6 => simp at hf; subst hf; exact ⟨_, _, rfl, rfl, rfl, rfl, by decide, rfl, rfl⟩
    | j + 7 => simp at hf
  · refine ⟨_, _, _, rfl, rfl, rfl, rfl, rfl, rfl, rfl, by decide, rfl, _, rfl, rfl, fun j f hf => ?_⟩
    match j with
    | 0 => simp at hf; subst hf; exact ⟨_, _, rfl, rfl, rfl, rfl, by decide, rfl, rfl⟩
    | 1 => simp at hf; subst hf; exact ⟨_, _, rfl, rfl, rfl, rfl, by decide, rfl, rfl⟩
    | 2 => simp at hf; subst hf; exact ⟨_, _, rfl, rfl, rfl, rfl, by decide, rfl, rfl⟩
    | 3 => simp at hf; subst hf; exact ⟨_, _, rfl, rfl, rfl, rfl, by decide, rfl, rfl⟩
    | j + 4 => simp at hf
  · refine ⟨_, _, _, rfl, rfl, rfl, rfl, rfl, rfl, rfl, by decide, rfl, _, rfl, rfl, fun j f hf => ?_⟩
    match j with
    | 0 => simp at hf; subst hf; exact ⟨_, _, rfl, rfl, rfl, rfl, by decide, rfl, rfl⟩
    | 1 => simp at hf; subst hf; exact ⟨_, _, rfl, rfl, rfl, rfl, by decide, rfl, rfl⟩
    | 2 => simp at hf; subst hf; exact ⟨_, _, rfl, rfl, rfl, rfl, by decide, rfl, rfl⟩
    | 3 => simp at hf; subst hf; exact ⟨_, _, rfl, rfl, rfl, rfl, by decide, rfl, rfl⟩
    | j + 4 => simp at hf
abbrev vi : V := .one (.c (.int .i64 0))
abbrev vy : V := .one (.c (.int .u8 0))
abbrev vb : V := .one (.c (.bool false))
abbrev vl : V := .one (.c (.sl []))
abbrev vs : V := .one (.c (.str []))
abbrev vj : V := .one .junk

def F3 : FA := { n := 27, sh := [vl, vj, vb, vi, vb, vl, vb, vl, vi, vi, vi, vb, vl, vl, vb, vl, vl, vl, vb, vb, vb, vb, vl, vl, vl, vb, vb], obs := [], tk := [8, 10, 19, 20, 22, 23], keep := [(0, [0]), (1, [0, 3]), (2, [0, 3]), (3, [0, 11]), (4, [2]), (5, [0, 4]), (6, [0, 4, 5]), (7, [0, 4, 5, 6]), (8, [0, 5, 21]), (9, [2]), (10, [26]), (11, [2]), (12, [2])] }
def F12 : FA := { n := 27, sh := [vl, vi, vj, vj, vi, vi, vi, vl, vi, vi, vi, vb, vi, vl, vi, vb, vi, vi, vl, vi, .one (.cp [.int .i64 0, .int .i64 0, .int .i64 0, .sl [], .sl [], .sl [], .bool false]), .one (.ag [.int .i64 0, .int .i64 0, .int .i64 0, .sl [], .sl [], .sl [], .bool false]), vi, vi, vi, vb, vi], obs := [], tk := [6, 16, 22, 26], keep := [(0, [0, 1]), (1, [0, 1]), (2, [0, 1, 11]), (3, [4]), (4, [0, 1, 5]), (5, [0, 1, 5, 15]), (6, [0, 1, 5]), (7, [0, 1, 5]), (8, [0, 1, 5, 25]), (9, [4]), (10, [4])] }
def F13 : FA := { n := 66, sh := [vl, vj, vb, vi, vi, vi, vl, vi, vb, vb, vi, vl, vi, vb, vi, vi, vl, vi, .one (.cp [.int .i64 0, .int .i64 0, .int .i64 0, .sl [], .sl [], .sl [], .bool false]), .one (.ag [.int .i64 0, .int .i64 0, .int .i64 0, .sl [], .sl [], .sl [], .bool false]), vb, vb, vb, vi, vb, vb, vl, vi, vi, vb, vb, vb, vi, vl, vi, .one (.cp [.int .i64 0, .int .i64 0, .int .i64 0, .sl [], .sl [], .sl [], .bool false]), .one (.cp [.sl [], .sl [], .sl [], .bool false]), vl, vi, vb, vi, vi, vl, vi, .one (.cp [.int .i64 0, .int .i64 0, .int .i64 0, .sl [], .sl [], .sl [], .bool false]), .one (.cp [.sl [], .sl [], .sl [], .bool false]), vl, vi, .one (.cp [.str [], .str [], .int .i64 0, .int .i64 0, .str [], .sl [], .int .i64 0]), .one (.cp [.int .i64 0]), vi, vi, vb, vb, vi, vi, vi, vl, vi, vi, vb, vb, vb, vl, vl, vb], obs := [], tk := [14, 22, 25, 40, 53, 54, 63], keep := [(0, [0]), (1, [0, 9]), (2, [2]), (3, [0, 3]), (4, [0, 3, 13]), (5, [0, 3]), (6, [0, 3, 31]), (7, [2]), (8, [0, 3, 4]), (9, [0, 3, 4, 39]), (10, [0, 3, 4]), (11, [0, 3, 4, 5]), (12, [0, 3, 4, 62]), (13, [2]), (14, [2])] }
def F14 : FA := { n := 23, sh := [vl, vj, vl, vl, vi, vl, vi, vl, vi, vl, vi, vb, vi, vi, .one (.al (.s 3 0 0) []), vi, vl, vi, .one (.cp [.int .i64 0, .int .i64 0, .int .i64 0, .sl [], .sl [], .sl [], .bool false]), .one (.ag [.int .i64 0, .int .i64 0, .int .i64 0, .sl [], .sl [], .sl [], .bool false]), .one (.ag [.int .i64 0, .int .i64 0, .int .i64 0, .sl [], .sl [], .sl [], .bool false]), .one (.pp (.s 3 0 0) [] 0 0), vl], obs := [], al := [14], tk := [12, 22], keep := [(0, [0]), (1, [0, 3]), (2, [0, 3, 4]), (3, [0, 3, 4, 11]), (4, [0, 3, 4]), (5, [0, 3, 4]), (6, [2])] }
def F15 : FA := { n := 85, sh := [vl, vj, vb, vl, vl, vi, .one (.ptr 6 0), vj, .one (.ptr 8 0), vi, vi, vl, vi, vb, vb, vl, vi, vl, vl, vi, vi, vb, vi, .one (.cp [.int .i64 0, .int .i64 0, .int .i64 0, .sl [], .sl [], .sl [], .bool false]), .one (.ag [.int .i64 0, .int .i64 0, .int .i64 0, .sl [], .sl [], .sl [], .bool false]), .one (.ag [.int .i64 0, .int .i64 0, .int .i64 0, .sl [], .sl [], .sl [], .bool false]), vb, vb, .one (.ptr 6 3), vl, vi, vi, vb, .one (.cp [.str [], .str [], .int .i64 0, .int .i64 0, .str [], .sl [], .int .i64 0]), .one (.ag [.str [], .str [], .int .i64 0, .int .i64 0, .str [], .sl [], .int .i64 0]), vl, .one (.ptr 8 0), vs, vb, vb, .one (.ptr 8 6), vi, vb, vb, .one (.ptr 8 6), vi, vi, vi, vl, vi, vi, vb, vb, vb, vb, vl, .one (.ptr 8 0), vs, vl, vl, .one (.ptr 8 6), vi, vb, .one (.al (.s 4 0 0) []), .one (.ptr 8 6), vi, .one (.pp (.s 4 0 0) [] 0 0), vi, vi, .one (.pp (.s 4 0 0) [] 0 0), vi, vi, vl, vi, vi, vb, vi, .one (.cp [.int .i64 0]), vi, vi, vb, vi, vb, vb, vi], obs := [(6, [.int .i64 0, .int .i64 0, .int .i64 0, .sl [], .sl [], .sl [], .bool false]), (8, [.str [], .str [], .int .i64 0, .int .i64 0, .str [], .sl [], .int .i64 0])], al := [63], tk := [20, 29, 31, 39, 43, 55, 57, 65, 72, 74, 79, 81], dp := [58, 59], keep := [(0, [0]), (1, [0, 14]), (2, [2]), (3, [0, 3]), (4, [0, 3, 4]), (5, [0, 3, 4, 18, 19, 20]), (6, [0, 3, 4, 18, 19, 20, 21]), (7, [0, 3, 4, 5, 6, 18, 19, 20]), (8, [0, 3, 4, 5, 6, 18, 19, 20, 27]), (9, [2]), (10, [0, 3, 4, 5, 18, 19, 20, 29, 30, 31]), (11, [0, 3, 4, 5, 18, 19, 20, 29, 30, 31, 32]), (12, [0, 3, 4, 5, 8, 18, 19, 20, 29, 30, 31]), (13, [0, 3, 4, 5, 8, 18, 19, 20, 29, 30, 31, 54]), (14, [2]), (15, [0, 3, 4, 5, 8, 18, 19, 20, 29, 30, 31]), (16, [0, 3, 4, 5, 8, 18, 19, 20, 29, 30, 31, 62]), (17, [0, 3, 4, 5, 18, 19, 20, 29, 30, 31]), (18, [0, 3, 4, 5, 18, 19, 20, 29, 30, 31]), (19, [0, 3, 4, 18, 19, 20]), (20, [72, 73, 74]), (21, [72, 73, 74, 75]), (22, [9, 10, 72, 73, 74]), (23, [72, 73, 74, 83]), (24, [2]), (25, [72, 73, 74]), (26, [2])] }
def F16 : FA := { n := 27, sh := [vl, vl, vj, vj, vb, vi, vl, vi, vl, vi, vb, vi, vl, vi, vb, vi, vi, vl, vi, .one (.cp [.int .i64 0, .int .i64 0, .int .i64 0, .sl [], .sl [], .sl [], .bool false]), .one (.ag [.int .i64 0, .int .i64 0, .int .i64 0, .sl [], .sl [], .sl [], .bool false]), vl, vi, .one (.cp [.int .i64 0, .int .i64 0, .int .i64 0, .sl [], .sl [], .sl [], .bool false]), .one (.ag [.int .i64 0, .int .i64 0, .int .i64 0, .sl [], .sl [], .sl [], .bool false]), vb, vb], obs := [], tk := [15], keep := [(0, [0, 1]), (1, [0, 1, 10]), (2, [4]), (3, [0, 1, 5]), (4, [0, 1, 5, 14]), (5, [0, 1, 5]), (6, [0, 1, 5, 26]), (7, [4]), (8, [4])] }
def F32 : FA := { n := 27, sh := [vl, vi, vj, vj, vi, vi, vi, vl, vi, vi, vi, vb, vi, vl, vi, vb, vi, vi, vl, vi, .one (.cp [.int .i64 0, .int .i64 0, .str [], .sl []]), .one (.ag [.int .i64 0, .int .i64 0, .str [], .sl []]), vi, vi, vi, vb, vi], obs := [], tk := [6, 16, 22, 26], keep := [(0, [0, 1]), (1, [0, 1]), (2, [0, 1, 11]), (3, [4]), (4, [0, 1, 5]), (5, [0, 1, 5, 15]), (6, [0, 1, 5]), (7, [0, 1, 5]), (8, [0, 1, 5, 25]), (9, [4]), (10, [4])] }
def F35 : FA := { n := 23, sh := [vl, vj, vl, vl, vi, vl, vi, vl, vi, vl, vi, vb, vi, vi, .one (.al (.s 3 0 0) []), vi, vl, vi, .one (.cp [.int .i64 0, .int .i64 0, .str [], .sl []]), .one (.ag [.int .i64 0, .int .i64 0, .str [], .sl []]), .one (.ag [.int .i64 0, .int .i64 0, .str [], .sl []]), .one (.pp (.s 3 0 0) [] 0 0), vl], obs := [], al := [14], tk := [12, 22], keep := [(0, [0]), (1, [0, 3]), (2, [0, 3, 4]), (3, [0, 3, 4, 11]), (4, [0, 3, 4]), (5, [0, 3, 4]), (6, [2])] }
def F37 : FA := { n := 26, sh := [.one (.ag [.int .i64 0, .int .i64 0, .str [], .sl []]), .one (.ag [.int .i64 0, .int .i64 0, .str [], .sl []]), .one (.ptr 2 0), .one (.ptr 3 0), vb, .one (.ptr 2 0), vi, .one (.ptr 3 0), vi, vb, .one (.ptr 2 1), vi, .one (.ptr 3 1), vi, vb, .one (.ptr 2 2), vs, .one (.ptr 3 2), vs, vb, .one (.ptr 2 3), vl, .one (.ptr 3 3), vl, vb, vb], obs := [(2, [.int .i64 0, .int .i64 0, .str [], .sl []]), (3, [.int .i64 0, .int .i64 0, .str [], .sl []])], tk := [6, 8, 11, 13, 16, 18, 21, 23], keep := [(0, [2, 3]), (1, [2, 3, 9]), (2, [4]), (3, [2, 3, 14]), (4, [4]), (5, [2, 3, 19]), (6, [4]), (7, [25]), (8, [4]), (9, [4])] }
def F38 : FA := { n := 27, sh := [vl, vl, vj, vj, vb, vi, vl, vi, vl, vi, vb, vi, vl, vi, vb, vi, vi, vl, vi, .one (.cp [.int .i64 0, .int .i64 0, .str [], .sl []]), .one (.ag [.int .i64 0, .int .i64 0, .str [], .sl []]), vl, vi, .one (.cp [.int .i64 0, .int .i64 0, .str [], .sl []]), .one (.ag [.int .i64 0, .int .i64 0, .str [], .sl []]), vb, vb], obs := [], tk := [15], keep := [(0, [0, 1]), (1, [0, 1, 10]), (2, [4]), (3, [0, 1, 5]), (4, [0, 1, 5, 14]), (5, [0, 1, 5]), (6, [0, 1, 5, 26]), (7, [4]), (8, [4])] }
def F48 : FA := { n := 31, sh := [.one (.ag [.int .i64 0, .int .i64 0, .str [], .sl []]), .one (.ag [.int .i64 0, .int .i64 0, .str [], .sl []]), .one (.ptr 2 0), .one (.ptr 3 0), vb, .one (.ptr 2 0), vi, .one (.ptr 3 0), vi, vb, vb, .one (.ptr 2 1), vi, .one (.ptr 3 1), vi, vb, vb, vb, .one (.ptr 2 2), vs, .one (.ptr 3 2), vs, vb, vb, vb, .one (.ptr 2 3), vl, .one (.ptr 3 3), vl, vb, vb], obs := [(2, [.int .i64 0, .int .i64 0, .str [], .sl []]), (3, [.int .i64 0, .int .i64 0, .str [], .sl []])], tk := [6, 8, 10, 12, 14, 17, 19, 21, 24, 26, 28], keep := [(0, [2, 3]), (1, [4])] }
def F50 : FA := { n := 19, sh := [.one (.ag [.int .i64 0, .int .i64 0, .str [], .sl []]), vi, .one (.ptr 2 0), vj, vi, vi, .one (.ptr 2 2), vs, vi, vi, vi, vb, .one (.ptr 2 3), vl, vi, vi, vi, vb, vi], obs := [(2, [.int .i64 0, .int .i64 0, .str [], .sl []])], tk := [5, 7, 13, 14, 18], keep := [(0, [1, 2]), (1, [1, 2]), (2, [1, 2, 11]), (3, [4]), (4, [1]), (5, [1, 17]), (6, [4]), (7, [4])] }
def F52 : FA := { n := 18, sh := [.one (.ag [.int .i64 0, .int .i64 0, .str [], .sl []]), .one (.ptr 1 0), .one (.ptr 2 0), .one (.ptr 3 0), .one (.ptr 1 0), vi, .one (.ptr 3 0), .one (.ptr 1 1), vi, .one (.ptr 3 1), .one (.ptr 1 2), vs, .one (.ptr 3 2), .one (.ptr 1 3), vl, vl, .one (.ptr 3 3), .one (.ag [.int .i64 0, .int .i64 0, .str [], .sl []])], obs := [(1, [.int .i64 0, .int .i64 0, .str [], .sl []]), (2, [.int .i64 0, .int .i64 0, .str [], .sl []]), (3, [.int .i64 0, .int .i64 0, .str [], .sl []])], tk := [5, 8, 11, 14, 17], keep := [(0, [1, 2]), (1, [1, 2, 3]), (2, [1, 2, 3]), (3, [1, 2, 3]), (4, [1, 2, 3]), (5, [2, 3]), (6, [2])] }
def F61 : FA := { n := 6, sh := [.one (.ag [.int .i64 0, .int .i64 0, .str [], .sl []]), .one (.ptr 1 0), vb, .one (.ag [.int .i64 0, .int .i64 0, .str [], .sl []]), vi, vb], obs := [(1, [.int .i64 0, .int .i64 0, .str [], .sl []])], tk := [3], keep := [(0, [1]), (1, [2])] }
def F68 : FA := { n := 24, sh := [.one (.ag [.int .i64 0, .int .i64 0, .int .i64 0, .sl [], .sl [], .sl [], .bool false]), vi, .one (.ptr 2 0), vj, vi, .one (.ptr 2 3), vl, vi, vi, vi, vb, .one (.ptr 2 4), vl, vi, vi, vi, vb, .one (.ptr 2 5), vl, vi, vi, vi, vb, vi], obs := [(2, [.int .i64 0, .int .i64 0, .int .i64 0, .sl [], .sl [], .sl [], .bool false])], tk := [6, 7, 12, 13, 18, 19, 23], keep := [(0, [1, 2]), (1, [1, 2]), (2, [1, 2, 10]), (3, [4]), (4, [1, 2]), (5, [1, 2, 16]), (6, [4]), (7, [1]), (8, [1, 22]), (9, [4]), (10, [4])] }
def F69 : FA := { n := 15, sh := [vi, vi, vi, vj, vj, vj, vb, vi, vi, vb, vb, vi, vi, vb, vb], obs := [], tk := [8, 10, 11, 12], keep := [(0, [0, 1, 2]), (1, [6])] }
def F70 : FA := { n := 86, sh := [.one (.ag [.int .i64 0, .int .i64 0, .int .i64 0, .sl [], .sl [], .sl [], .bool false]), .one (.ptr 1 0), vb, vi, vi, .one (.ptr 1 0), vi, vb, vb, vb, .one (.ptr 1 1), vi, vb, vb, vb, vb, .one (.ptr 1 2), vi, vb, vb, vb, vb, .one (.ptr 1 3), vl, vi, vb, vb, vb, vb, .one (.ptr 1 4), vl, vi, .one (.ptr 1 3), vl, vi, vb, vb, vb, .one (.ptr 1 5), vl, vi, .one (.ptr 1 1), vi, vb, vb, vi, .one (.ptr 1 3), vl, vi, vb, vi, vi, .one (.ptr 1 3), vl, vi, .one (.cp [.str [], .str [], .int .i64 0, .int .i64 0, .str [], .sl [], .int .i64 0]), .one (.ag [.str [], .str [], .int .i64 0, .int .i64 0, .str [], .sl [], .int .i64 0]), vb, vb, vb, .one (.ptr 1 4), vl, vi, .one (.cp [.int .i64 0]), vi, vb, vb, vi, .one (.ptr 1 5), vl, vi, vb, vi, vi, .one (.ptr 1 5), vl, vi, vi, .one (.cp [.int .i64 0]), vi, .one (.ptr 1 5), vl, vi, .one (.cp [.int .i64 0]), vi, vb], obs := [(1, [.int .i64 0, .int .i64 0, .int .i64 0, .sl [], .sl [], .sl [], .bool false])], tk := [6, 9, 15, 17, 21, 28, 37, 42, 50, 59, 72], keep := [(0, [1]), (1, [1, 44]), (2, [2]), (3, [1, 3]), (4, [1, 3, 49]), (5, [1, 3]), (6, [1, 3, 66]), (7, [2]), (8, [1, 4]), (9, [1, 4, 71]), (10, [1, 4]), (11, [1, 4, 85]), (12, [2]), (13, [2])] }
def F71 : FA := { n := 38, sh := [vl, vi, vj, vj, vi, vi, vi, vi, vi, vl, vi, vb, vi, vi, vi, vl, vi, .one (.cp [.int .i64 0, .int .i64 0, .int .i64 0, .sl [], .sl [], .sl [], .bool false]), .one (.cp [.sl [], .sl [], .sl [], .bool false]), vl, vi, vb, vi, vi, vl, vi, .one (.cp [.int .i64 0, .int .i64 0, .int .i64 0, .sl [], .sl [], .sl [], .bool false]), .one (.cp [.sl [], .sl [], .sl [], .bool false]), vl, vi, .one (.cp [.str [], .str [], .int .i64 0, .int .i64 0, .str [], .sl [], .int .i64 0]), .one (.cp [.int .i64 0]), vi, vi, vb, vi, vi, vi], obs := [], tk := [12, 22, 35, 37], keep := [(0, [0, 1]), (1, [0, 1, 5]), (2, [0, 1, 5, 6]), (3, [0, 1, 5, 6, 11]), (4, [0, 1, 5, 6]), (5, [0, 1, 5, 6, 7]), (6, [0, 1, 5, 6, 7, 21]), (7, [0, 1, 5, 6, 7]), (8, [0, 1, 5, 6, 7, 34]), (9, [0, 1, 5, 6, 7]), (10, [4])] }
def F72 : FA := { n := 18, sh := [vl, vj, vb, vi, vi, vl, vi, vb, vi, vi, vl, vi, vl, vl, vi, .one (.cp [.str []]), vs, vb], obs := [], tk := [8], keep := [(0, [0]), (1, [0, 3]), (2, [0, 3, 7]), (3, [0, 3]), (4, [0, 3, 17]), (5, [2]), (6, [2])] }
def F73 : FA := { n := 36, sh := [vl, vj, vl, vl, vi, vi, vl, vi, vl, vi, vb, vi, vi, vi, vl, vi, .one (.cp [.int .i64 0, .int .i64 0, .int .i64 0, .sl [], .sl [], .sl [], .bool false]), .one (.cp [.sl [], .sl [], .sl [], .bool false]), vl, vi, vb, vi, vi, vl, vl, vi, .one (.cp [.int .i64 0, .int .i64 0, .int .i64 0, .sl [], .sl [], .sl [], .bool false]), .one (.cp [.sl [], .sl [], .sl [], .bool false]), vl, vi, .one (.cp [.str [], .str [], .int .i64 0, .int .i64 0, .str [], .sl [], .int .i64 0]), .one (.cp [.str [], .str [], .int .i64 0, .int .i64 0, .str [], .sl [], .int .i64 0]), vs, vl, vl, vl], obs := [], tk := [11, 21, 23, 35], dp := [6, 33, 34], keep := [(0, [0]), (1, [0, 3]), (2, [0, 3, 4]), (3, [0, 3, 4, 10]), (4, [0, 3, 4]), (5, [0, 3, 4, 5]), (6, [0, 3, 4, 5, 20]), (7, [0, 3, 4, 5]), (8, [0, 3, 4, 5]), (9, [2])] }
def F74 : FA := { n := 29, sh := [.one (.ag [.int .i64 0, .int .i64 0, .int .i64 0, .sl [], .sl [], .sl [], .bool false]), .one (.ptr 1 0), .one (.ptr 2 0), .one (.ptr 3 0), .one (.ptr 1 0), vi, .one (.ptr 3 0), .one (.ptr 1 1), vi, .one (.ptr 3 1), .one (.ptr 1 2), vi, .one (.ptr 3 2), .one (.ptr 1 3), vl, vl, .one (.ptr 3 3), .one (.ptr 1 4), vl, vl, .one (.ptr 3 4), .one (.ptr 1 5), vl, vl, .one (.ptr 3 5), .one (.ptr 1 6), vb, .one (.ptr 3 6), .one (.ag [.int .i64 0, .int .i64 0, .int .i64 0, .sl [], .sl [], .sl [], .bool false])], obs := [(1, [.int .i64 0, .int .i64 0, .int .i64 0, .sl [], .sl [], .sl [], .bool false]), (2, [.int .i64 0, .int .i64 0, .int .i64 0, .sl [], .sl [], .sl [], .bool false]), (3, [.int .i64 0, .int .i64 0, .int .i64 0, .sl [], .sl [], .sl [], .bool false])], tk := [5, 8, 11, 14, 18, 22, 26, 28], keep := [(0, [1, 2]), (1, [1, 2, 3]), (2, [1, 2, 3]), (3, [1, 2, 3]), (4, [1, 2, 3]), (5, [1, 2, 3]), (6, [1, 2, 3]), (7, [1, 2, 3]), (8, [2, 3]), (9, [2])] }
def F75 : FA := { n := 15, sh := [vi, vi, vi, vj, vj, vj, vb, vi, vi, vb, vb, vi, vi, vb, vb], obs := [], tk := [8, 10, 11, 12], keep := [(0, [0, 1, 2]), (1, [6])] }
def F76 : FA := { n := 71, sh := [.one (.ag [.int .i64 0, .int .i64 0, .int .i64 0, .sl [], .sl [], .sl [], .bool false]), .one (.ptr 1 0), vb, vj, .one (.ptr 4 0), vj, vi, .one (.ptr 1 3), vl, vi, vi, vb, .one (.cp [.str [], .str [], .int .i64 0, .int .i64 0, .str [], .sl [], .int .i64 0]), .one (.ag [.str [], .str [], .int .i64 0, .int .i64 0, .str [], .sl [], .int .i64 0]), .one (.ag [.str [], .str [], .int .i64 0, .int .i64 0, .str [], .sl [], .int .i64 0]), vb, vb, vi, .one (.ptr 1 4), vl, vi, vi, vb, .one (.cp [.int .i64 0]), vi, vi, vb, vi, .one (.ptr 1 0), vi, vb, vb, vb, .one (.ptr 1 1), vi, vb, vb, vb, vb, .one (.ptr 1 2), vi, vb, vb, vb, vb, .one (.ptr 1 3), vl, vi, vb, vb, vb, .one (.ptr 1 4), vl, vi, .one (.ptr 1 3), vl, vi, vb, vb, .one (.ptr 1 5), vl, vb, vb, vb, .one (.ptr 1 5), vl, vi, .one (.ptr 1 1), vi, vb, vb], obs := [(1, [.int .i64 0, .int .i64 0, .int .i64 0, .sl [], .sl [], .sl [], .bool false]), (4, [.str [], .str [], .int .i64 0, .int .i64 0, .str [], .sl [], .int .i64 0])], tk := [10, 14, 21, 25, 29, 32, 38, 40, 44, 52, 55, 58, 63, 65, 68], keep := [(0, [1]), (1, [1, 8, 9, 10]), (2, [1, 8, 9, 10, 11]), (3, [1, 4, 8, 9, 10]), (4, [1, 8, 9, 10, 16]), (5, [2]), (6, [1, 8, 9, 10]), (7, [1, 19, 20, 21]), (8, [1, 19, 20, 21, 22]), (9, [1, 6, 19, 20, 21]), (10, [1, 19, 20, 21, 26]), (11, [2]), (12, [1, 19, 20, 21]), (13, [1, 50]), (14, [2]), (15, [2])] }
def F77 : FA := { n := 9, sh := [vl, vs, vj, vj, vb, vl, vs, vi, vb], obs := [], tk := [5, 6], keep := [(0, [0, 1]), (1, [4])] }
def F78 : FA := { n := 43, sh := [.one (.ag [.int .i64 0, .int .i64 0, .int .i64 0, .sl [], .sl [], .sl [], .bool false]), .one (.ag [.int .i64 0, .int .i64 0, .int .i64 0, .sl [], .sl [], .sl [], .bool false]), .one (.ptr 2 0), .one (.ptr 3 0), vb, .one (.ptr 2 0), vi, .one (.ptr 3 0), vi, vb, .one (.ptr 2 1), vi, .one (.ptr 3 1), vi, vb, .one (.ptr 2 2), vi, .one (.ptr 3 2), vi, vb, .one (.ptr 2 3), vl, .one (.ptr 3 3), vl, vb, vb, .one (.ptr 2 4), vl, .one (.ptr 3 4), vl, vb, vb, .one (.ptr 2 5), vl, .one (.ptr 3 5), vl, vb, vb, .one (.ptr 2 6), vb, .one (.ptr 3 6), vb, vb], obs := [(2, [.int .i64 0, .int .i64 0, .int .i64 0, .sl [], .sl [], .sl [], .bool false]), (3, [.int .i64 0, .int .i64 0, .int .i64 0, .sl [], .sl [], .sl [], .bool false])], tk := [6, 8, 11, 13, 16, 18, 21, 23, 27, 29, 33, 35, 39, 41], keep := [(0, [2, 3]), (1, [2, 3, 9]), (2, [4]), (3, [2, 3, 14]), (4, [4]), (5, [2, 3, 19]), (6, [4]), (7, [2, 3, 25]), (8, [4]), (9, [2, 3, 31]), (10, [4]), (11, [2, 3, 37]), (12, [4]), (13, [42]), (14, [4]), (15, [4])] }
def F96 : FA := { n := 18, sh := [vl, vs, vj, vj, vb, vi, vi, vl, vi, vb, vi, vi, vl, vi, .one (.cp [.str []]), vs, vs, vb], obs := [], tk := [10], keep := [(0, [0, 1]), (1, [0, 1, 5]), (2, [0, 1, 5, 9]), (3, [0, 1, 5]), (4, [0, 1, 5, 17]), (5, [4]), (6, [4])] }
def F108 : FA := { n := 6, sh := [.one (.ag [.int .i64 0, .int .i64 0, .str [], .sl []]), .one (.ptr 1 0), vb, .one (.ag [.int .i64 0, .int .i64 0, .str [], .sl []]), vi, vb], obs := [(1, [.int .i64 0, .int .i64 0, .str [], .sl []])], tk := [3], keep := [(0, [1]), (1, [2])] }
def F122 : FA := { n := 32, sh := [vl, vl, .one (.fn 48 []), vj, vj, vj, vb, vi, .one (.ptr 8 0), .one (.ptr 9 0), vl, vi, vl, vi, vb, vl, vi, vi, vb, vi, .one (.cp [.int .i64 0, .int .i64 0, .str [], .sl []]), .one (.ag [.int .i64 0, .int .i64 0, .str [], .sl []]), vl, vi, .one (.cp [.int .i64 0, .int .i64 0, .str [], .sl []]), .one (.ag [.int .i64 0, .int .i64 0, .str [], .sl []]), .one (.fn 48 []), .one (.ag [.int .i64 0, .int .i64 0, .str [], .sl []]), .one (.ag [.int .i64 0, .int .i64 0, .str [], .sl []]), vb, vb, vi], obs := [(8, [.int .i64 0, .int .i64 0, .str [], .sl []]), (9, [.int .i64 0, .int .i64 0, .str [], .sl []])], tk := [15, 17, 23, 27, 28], keep := [(0, [0, 1, 2]), (1, [0, 1, 2, 14]), (2, [6]), (3, [1, 2, 15, 16, 17]), (4, [1, 2, 15, 16, 17, 18]), (5, [1, 2, 7, 8, 15, 16, 17]), (6, [1, 2, 8, 9, 15, 16, 17]), (7, [1, 2, 15, 16, 17, 30]), (8, [6]), (9, [1, 2, 15, 16, 17]), (10, [6])] }
def F133 : FA := { n := 32, sh := [.one (.ag [.int .i64 0, .int .i64 0, .str [], .sl []]), vi, .one (.ptr 2 0), vj, vi, vi, vj, .one (.ptr 7 0), vi, vb, vb, .one (.ag [.int .i64 0, .int .i64 0, .str [], .sl []]), vb, vb, vb, .one (.ptr 2 3), vl, vi, vi, vb, .one (.cp [.int .i64 0, .int .i64 0, .str [], .sl []]), .one (.ag [.int .i64 0, .int .i64 0, .str [], .sl []]), vi, .one (.ag [.int .i64 0, .int .i64 0, .str [], .sl []]), vi, vi, vi, vi, vi, vb, vi, vi], obs := [(2, [.int .i64 0, .int .i64 0, .str [], .sl []]), (7, [.int .i64 0, .int .i64 0, .str [], .sl []])], tk := [10, 16, 18, 22, 23, 31], keep := [(0, [1, 2]), (1, [1, 2, 14]), (2, [4]), (3, [1, 2, 5]), (4, [1, 5, 16, 17, 18]), (5, [1, 5, 16, 17, 18, 19]), (6, [1, 5, 7, 16, 17, 18]), (7, [1, 5, 16, 17, 18]), (8, [1, 5, 16, 17, 18, 29]), (9, [4]), (10, [1, 5, 16, 17, 18]), (11, [4])] }
def F149 : FA := { n := 27, sh := [vl, vi, vj, vj, vi, vi, vi, vl, vi, vi, vi, vb, vi, vl, vi, vb, vi, vi, vl, vi, .one (.cp [.str [], .str [], .int .i64 0, .int .i64 0, .str [], .sl [], .int .i64 0]), .one (.ag [.str [], .str [], .int .i64 0, .int .i64 0, .str [], .sl [], .int .i64 0]), vi, vi, vi, vb, vi], obs := [], tk := [6, 16, 22, 26], keep := [(0, [0, 1]), (1, [0, 1]), (2, [0, 1, 11]), (3, [4]), (4, [0, 1, 5]), (5, [0, 1, 5, 15]), (6, [0, 1, 5]), (7, [0, 1, 5]), (8, [0, 1, 5, 25]), (9, [4]), (10, [4])] }
def F150 : FA := { n := 12, sh := [vl, vi, vj, vj, vi, vi, vl, vi, vi, vi, vb, vi], obs := [], tk := [5, 6, 11], keep := [(0, [0, 1]), (1, [1]), (2, [1, 10]), (3, [4]), (4, [4])] }
def F151 : FA := { n := 37, sh := [.one (.ag [.str [], .str [], .int .i64 0, .int .i64 0, .str [], .sl [], .int .i64 0]), .one (.ptr 1 0), vb, .one (.ptr 1 6), vi, vb, .one (.ptr 1 0), vs, vb, vb, .one (.ptr 1 1), vs, vb, vb, vb, .one (.ptr 1 2), .one (.ag [.int .i64 0, .int .i64 0, .str [], .sl []]), vb, vb, .one (.ptr 1 0), vs, vb, vb, .one (.ptr 1 6), vi, vb, vb, vb, .one (.ptr 1 1), vs, vb, vb, vb, .one (.ptr 1 2), .one (.ag [.int .i64 0, .int .i64 0, .str [], .sl []]), vb, vb], obs := [(1, [.str [], .str [], .int .i64 0, .int .i64 0, .str [], .sl [], .int .i64 0])], tk := [7, 9, 11, 14, 16, 20, 22, 24, 27, 29, 32, 34], keep := [(0, [1]), (1, [1, 5]), (2, [2]), (3, [2])] }
def F152 : FA := { n := 23, sh := [vl, vj, vl, vl, vi, vl, vi, vl, vi, vl, vi, vb, vi, vi, .one (.al (.s 3 0 0) []), vi, vl, vi, .one (.cp [.str [], .str [], .int .i64 0, .int .i64 0, .str [], .sl [], .int .i64 0]), .one (.ag [.str [], .str [], .int .i64 0, .int .i64 0, .str [], .sl [], .int .i64 0]), .one (.ag [.str [], .str [], .int .i64 0, .int .i64 0, .str [], .sl [], .int .i64 0]), .one (.pp (.s 3 0 0) [] 0 0), vl], obs := [], al := [14], tk := [12, 22], keep := [(0, [0]), (1, [0, 3]), (2, [0, 3, 4]), (3, [0, 3, 4, 11]), (4, [0, 3, 4]), (5, [0, 3, 4]), (6, [2])] }
def F153 : FA := { n := 22, sh := [vl, vj, vl, vl, vi, vl, vi, vl, vi, vl, vi, vb, vi, vi, .one (.al (.s 3 0 0) []), vi, vl, vi, .one (.cp [.int .i64 0]), vi, .one (.pp (.s 3 0 0) [] 0 0), vl], obs := [], al := [14], tk := [12, 21], keep := [(0, [0]), (1, [0, 3]), (2, [0, 3, 4]), (3, [0, 3, 4, 11]), (4, [0, 3, 4]), (5, [0, 3, 4]), (6, [2])] }
def F154 : FA := { n := 31, sh := [.one (.ag [.str [], .str [], .int .i64 0, .int .i64 0, .str [], .sl [], .int .i64 0]), .one (.ptr 1 0), vb, .one (.ptr 1 0), vs, vb, vb, .one (.ptr 1 6), vi, vb, .one (.ptr 1 1), vs, vb, vb, .one (.ptr 1 2), .one (.ag [.int .i64 0, .int .i64 0, .str [], .sl []]), vb, vb, .one (.ptr 1 6), vi, vb, vb, .one (.ptr 1 1), vs, vb, vb, vb, .one (.ptr 1 2), .one (.ag [.int .i64 0, .int .i64 0, .str [], .sl []]), vb, vb], obs := [(1, [.str [], .str [], .int .i64 0, .int .i64 0, .str [], .sl [], .int .i64 0])], tk := [4, 11, 13, 15, 19, 21, 23, 26, 28], keep := [(0, [1]), (1, [1, 6]), (2, [2]), (3, [1, 9]), (4, [2]), (5, [2])] }
def F155 : FA := { n := 21, sh := [vl, vj, vb, vi, vl, vi, vi, vi, vb, vi, vi, vl, vi, .one (.cp [.int .i64 0]), vi, vl, vi, vi, .one (.cp [.int .i64 0]), vi, vb], obs := [], tk := [9], keep := [(0, [0]), (1, [0, 3]), (2, [0, 3, 8]), (3, [0, 3]), (4, [0, 3, 20]), (5, [2]), (6, [2])] }
def F156 : FA := { n := 19, sh := [vl, vs, vj, vj, vi, vi, vl, vi, vi, vb, vi, vs, vl, vi, .one (.cp [.str []]), vs, vb, vi, vi], obs := [], tk := [8, 17], keep := [(0, [0, 1]), (1, [0, 1, 7, 8]), (2, [0, 1, 7, 8, 9]), (3, [0, 1, 5, 7, 8]), (4, [0, 1, 5, 7, 8, 16]), (5, [4]), (6, [0, 1, 7, 8]), (7, [4])] }
def F157 : FA := { n := 27, sh := [vl, vl, vj, vj, vb, vi, vl, vi, vl, vi, vb, vi, vl, vi, vb, vi, vi, vl, vi, .one (.cp [.str [], .str [], .int .i64 0, .int .i64 0, .str [], .sl [], .int .i64 0]), .one (.ag [.str [], .str [], .int .i64 0, .int .i64 0, .str [], .sl [], .int .i64 0]), vl, vi, .one (.cp [.str [], .str [], .int .i64 0, .int .i64 0, .str [], .sl [], .int .i64 0]), .one (.ag [.str [], .str [], .int .i64 0, .int .i64 0, .str [], .sl [], .int .i64 0]), vb, vb], obs := [], tk := [15], keep := [(0, [0, 1]), (1, [0, 1, 10]), (2, [4]), (3, [0, 1, 5]), (4, [0, 1, 5, 14]), (5, [0, 1, 5]), (6, [0, 1, 5, 26]), (7, [4]), (8, [4])] }
def F158 : FA := { n := 26, sh := [vl, vl, vj, vj, vb, vi, vl, vi, vl, vi, vb, vi, vl, vi, vb, vi, vi, vl, vi, .one (.cp [.int .i64 0]), vi, vl, vi, .one (.cp [.int .i64 0]), vi, vb], obs := [], tk := [15], keep := [(0, [0, 1]), (1, [0, 1, 10]), (2, [4]), (3, [0, 1, 5]), (4, [0, 1, 5, 14]), (5, [0, 1, 5]), (6, [0, 1, 5, 25]), (7, [4]), (8, [4])] }
def F185 : FA := { n := 42, sh := [.one (.ag [.int .i64 0, .int .i64 0, .str [], .sl []]), vi, vi, .one (.ptr 3 0), vj, vj, vi, vi, vi, vb, vb, vi, vb, vb, vb, .one (.ag [.int .i64 0, .int .i64 0, .str [], .sl []]), vb, vb, vb, vi, vi, vi, .one (.ptr 3 3), vl, vi, vb, vb, vi, vb, vb, vi, vi, .one (.ptr 3 3), vl, vi, .one (.cp [.int .i64 0, .int .i64 0, .str [], .sl []]), .one (.ag [.int .i64 0, .int .i64 0, .str [], .sl []]), vi, vi, vi, vi, vi], obs := [(3, [.int .i64 0, .int .i64 0, .str [], .sl []])], tk := [10, 14, 19, 26, 30, 39, 41], keep := [(0, [1, 2, 3]), (1, [1, 2, 3, 18]), (2, [6]), (3, [1, 2, 3]), (4, [1, 2, 3, 7]), (5, [1, 2, 3, 7, 29]), (6, [1, 2, 3, 7]), (7, [1, 2, 3, 7]), (8, [6])] }
def F194 : FA := { n := 36, sh := [vs, vj, vb, vi, vi, vb, vi, vs, vi, vb, vi, vi, vs, vi, vy, vi, vi, vb, vb, vb, vb, vi, vb, vb, vi, vb, vb, vb, vi, vb, vb, vb, vb, vs, vi, vb], obs := [], tk := [10, 18, 20, 23, 27, 28, 33], keep := [(0, [0]), (1, [0, 3]), (2, [0, 3, 9]), (3, [0, 3]), (4, [0, 3, 4]), (5, [0, 3, 4, 5]), (6, [0, 3, 32]), (7, [2]), (8, [2])] }
def F196 : FA := { n := 35, sh := [vs, vj, vb, vi, vi, vs, vi, vb, vi, vi, vs, vi, vy, vb, vb, vb, vi, vb, vb, vs, vi, vy, vb, vb, vb, vs, vi, vy, vb, vb, vb, vb, vs, vi, vb], obs := [], tk := [8, 15, 18, 24, 32], keep := [(0, [0]), (1, [0, 3]), (2, [0, 3, 7]), (3, [0, 3]), (4, [0, 3, 31]), (5, [2]), (6, [2])] }
def F203 : FA := { n := 85, sh := [.one (.ag [.int .i64 0, .int .i64 0, .str [], .sl []]), .one (.ptr 1 0), vb, .one (.ptr 1 0), vi, vb, vb, .one (.ptr 1 1), vi, vb, vb, .one (.ptr 1 2), vs, vb, vb, vb, .one (.ptr 1 3), vl, vi, vb, vb, vb, vb, .one (.ptr 1 1), vi, vb, vb, .one (.ptr 1 2), vs, vb, vb, vb, .one (.ptr 1 3), vl, vi, vb, vb, vb, vb, .one (.ptr 1 1), vi, vb, vb, .one (.ptr 1 2), vs, vb, vb, vb, .one (.ptr 1 3), vl, vi, vb, vb, vb, vb, .one (.ptr 1 1), vi, vb, vb, .one (.ptr 1 2), vs, vb, vb, vb, .one (.ptr 1 3), vl, vi, vb, vb, vb, vb, .one (.ptr 1 1), vi, vb, vb, .one (.ptr 1 2), vs, vb, vb, vb, .one (.ptr 1 3), vl, vi, vb, vb], obs := [(1, [.int .i64 0, .int .i64 0, .str [], .sl []])], tk := [4, 8, 10, 12, 15, 17, 24, 26, 28, 31, 33, 40, 42, 44, 47, 49, 56, 58, 60, 63, 65, 72, 74, 76, 79, 81], keep := [(0, [1]), (1, [1, 4]), (2, [1, 4, 5]), (3, [2]), (4, [1, 4, 21]), (5, [2]), (6, [1, 4, 37]), (7, [2]), (8, [1, 4, 53]), (9, [2]), (10, [1, 69]), (11, [2]), (12, [2])] }
def F209 : FA := { n := 26, sh := [.one (.ag [.str [], .str [], .int .i64 0, .int .i64 0, .str [], .sl [], .int .i64 0]), vi, .one (.ptr 2 0), vj, vi, vi, .one (.ptr 2 0), vs, vi, vi, vi, vb, vi, .one (.ptr 2 1), vs, vi, vi, vi, vb, .one (.ptr 2 2), .one (.ag [.int .i64 0, .int .i64 0, .str [], .sl []]), vi, vi, vi, vb, vi], obs := [(2, [.str [], .str [], .int .i64 0, .int .i64 0, .str [], .sl [], .int .i64 0])], tk := [5, 7, 12, 14, 20, 21, 25], keep := [(0, [1, 2]), (1, [1, 2]), (2, [1, 2, 11]), (3, [4]), (4, [1, 2]), (5, [1, 2, 18]), (6, [4]), (7, [1]), (8, [1, 24]), (9, [4]), (10, [4])] }
def F210 : FA := { n := 22, sh := [.one (.ag [.int .i64 0, .int .i64 0, .str [], .sl []]), .one (.ptr 1 0), vb, .one (.ptr 1 0), vi, vb, vb, .one (.ptr 1 1), vi, vb, vb, vb, .one (.ptr 1 2), vs, vb, vb, vb, .one (.ptr 1 3), vl, vi, vb, vb], obs := [(1, [.int .i64 0, .int .i64 0, .str [], .sl []])], tk := [4, 6, 8, 11, 13, 16, 18], keep := [(0, [1]), (1, [2])] }
def F211 : FA := { n := 18, sh := [.one (.ag [.str [], .str [], .int .i64 0, .int .i64 0, .str [], .sl [], .int .i64 0]), .one (.ptr 1 0), .one (.ptr 2 0), .one (.ptr 3 0), .one (.ptr 1 0), vs, .one (.ptr 3 0), .one (.ptr 1 1), vs, .one (.ptr 3 1), .one (.ptr 1 2), .one (.ag [.int .i64 0, .int .i64 0, .str [], .sl []]), .one (.ag [.int .i64 0, .int .i64 0, .str [], .sl []]), .one (.ptr 3 2), .one (.ptr 1 6), vi, .one (.ptr 3 6), .one (.ag [.str [], .str [], .int .i64 0, .int .i64 0, .str [], .sl [], .int .i64 0])], obs := [(1, [.str [], .str [], .int .i64 0, .int .i64 0, .str [], .sl [], .int .i64 0]), (2, [.str [], .str [], .int .i64 0, .int .i64 0, .str [], .sl [], .int .i64 0]), (3, [.str [], .str [], .int .i64 0, .int .i64 0, .str [], .sl [], .int .i64 0])], tk := [5, 8, 11, 15, 17], keep := [(0, [1, 2]), (1, [1, 2, 3]), (2, [1, 2, 3]), (3, [1, 2, 3]), (4, [1, 2, 3]), (5, [2, 3]), (6, [2])] }
def F212 : FA := { n := 6, sh := [.one (.ag [.int .i64 0, .int .i64 0, .str [], .sl []]), .one (.ptr 1 0), vb, .one (.ag [.int .i64 0, .int .i64 0, .str [], .sl []]), .one (.ag [.int .i64 0, .int .i64 0, .str [], .sl []]), vb], obs := [(1, [.int .i64 0, .int .i64 0, .str [], .sl []])], tk := [3], keep := [(0, [1]), (1, [2])] }
def F213 : FA := { n := 17, sh := [vi, vi, vj, vj, vb, vi, vb, vb, vi, vb, vb, vb, vb, vi, vi, vb, vb], obs := [], tk := [7, 12, 13, 14], keep := [(0, [0, 1]), (1, [4])] }
def F214 : FA := { n := 26, sh := [.one (.ag [.str [], .str [], .int .i64 0, .int .i64 0, .str [], .sl [], .int .i64 0]), .one (.ag [.str [], .str [], .int .i64 0, .int .i64 0, .str [], .sl [], .int .i64 0]), .one (.ptr 2 0), .one (.ptr 3 0), vb, .one (.ptr 2 0), vs, .one (.ptr 3 0), vs, vb, .one (.ptr 2 1), vs, .one (.ptr 3 1), vs, vb, .one (.ptr 2 2), .one (.ag [.int .i64 0, .int .i64 0, .str [], .sl []]), .one (.ptr 3 2), .one (.ag [.int .i64 0, .int .i64 0, .str [], .sl []]), vb, vb, .one (.ptr 2 6), vi, .one (.ptr 3 6), vi, vb], obs := [(2, [.str [], .str [], .int .i64 0, .int .i64 0, .str [], .sl [], .int .i64 0]), (3, [.str [], .str [], .int .i64 0, .int .i64 0, .str [], .sl [], .int .i64 0])], tk := [6, 8, 11, 13, 16, 18, 22, 24], keep := [(0, [2, 3]), (1, [2, 3, 9]), (2, [4]), (3, [2, 3, 14]), (4, [4]), (5, [2, 3, 20]), (6, [4]), (7, [25]), (8, [4]), (9, [4])] }
def F233 : FA := { n := 85, sh := [.one (.ag [.int .i64 0, .int .i64 0, .str [], .sl []]), .one (.ptr 1 0), vb, .one (.ptr 1 0), vi, vb, vb, .one (.ptr 1 1), vi, vb, vb, .one (.ptr 1 2), vs, vb, vb, vb, .one (.ptr 1 3), vl, vi, vb, vb, vb, vb, .one (.ptr 1 2), vs, vb, vb, .one (.ptr 1 1), vi, vb, vb, vb, .one (.ptr 1 3), vl, vi, vb, vb, vb, vb, .one (.ptr 1 1), vi, vb, vb, .one (.ptr 1 2), vs, vb, vb, vb, .one (.ptr 1 3), vl, vi, vb, vb, vb, vb, .one (.ptr 1 1), vi, vb, vb, .one (.ptr 1 2), vs, vb, vb, vb, .one (.ptr 1 3), vl, vi, vb, vb, vb, vb, .one (.ptr 1 1), vi, vb, vb, .one (.ptr 1 2), vs, vb, vb, vb, .one (.ptr 1 3), vl, vi, vb, vb], obs := [(1, [.int .i64 0, .int .i64 0, .str [], .sl []])], tk := [4, 8, 10, 12, 15, 17, 24, 26, 28, 31, 33, 40, 42, 44, 47, 49, 56, 58, 60, 63, 65, 72, 74, 76, 79, 81], keep := [(0, [1]), (1, [1, 4]), (2, [1, 4, 5]), (3, [2]), (4, [1, 4, 21]), (5, [2]), (6, [1, 4, 37]), (7, [2]), (8, [1, 4, 53]), (9, [2]), (10, [1, 69]), (11, [2]), (12, [2])] }
def F236 : FA := { n := 9, sh := [vy, vj, vb, vy, vb, vb, vy, vb, vb], obs := [], tk := [5, 6], keep := [(0, [0]), (1, [2])] }
def F237 : FA := { n := 9, sh := [vy, vj, vb, vy, vb, vb, vy, vb, vb], obs := [], tk := [5, 6], keep := [(0, [0]), (1, [2])] }
def F247 : FA := { n := 6, sh := [vi, vj, vb, vi, vi, vb], obs := [], tk := [4], keep := [(0, [0]), (1, [2])] }
def An : FuncId → FA
  | 3 => F3
  | 12 => F12
  | 13 => F13
  | 14 => F14
  | 15 => F15
  | 16 => F16
  | 32 => F32
  | 35 => F35
  | 37 => F37
  | 38 => F38
  | 48 => F48
  | 50 => F50
  | 52 => F52
  | 61 => F61
  | 68 => F68
  | 69 => F69
  | 70 => F70
  | 71 => F71
  | 72 => F72
  | 73 => F73
  | 74 => F74
  | 75 => F75
  | 76 => F76
  | 77 => F77
  | 78 => F78
  | 96 => F96
  | 108 => F108
  | 122 => F122
  | 133 => F133
  | 149 => F149
  | 150 => F150
  | 151 => F151
  | 152 => F152
  | 153 => F153
  | 154 => F154
  | 155 => F155
  | 156 => F156
  | 157 => F157
  | 158 => F158
  | 185 => F185
  | 194 => F194
  | 196 => F196
  | 203 => F203
  | 209 => F209
  | 210 => F210
  | 211 => F211
  | 212 => F212
  | 213 => F213
  | 214 => F214
  | 233 => F233
  | 236 => F236
  | 237 => F237
  | 247 => F247
  | _ => { n := 0, sh := [], obs := [] }
def Sgs : FuncId → List Sg
  | 3 => [{ bi := ⟨[(0, [[.F]])], []⟩, bo := ⟨[(0, [[.S]])], []⟩, np := 1, ext := false }]
  | 12 => [{ bi := ⟨[(0, [[.F]]), (1, [[.S]])], []⟩, bo := ⟨[(0, [[.S]])], []⟩, np := 2, ext := false }]
  | 13 => [{ bi := ⟨[(0, [[.F]])], []⟩, bo := ⟨[(0, [[.S]])], []⟩, np := 1, ext := false }]
  | 14 => [{ bi := ⟨[(0, [[.F]])], []⟩, bo := ⟨[(0, [[.U 7]])], []⟩, np := 1, ext := false }]
  | 15 => [{ bi := ⟨[(0, [[.F]])], []⟩, bo := ⟨[(0, [[.S]])], []⟩, np := 1, ext := false }]
  | 16 => [{ bi := ⟨[(0, [[.F]]), (1, [[.F]])], []⟩, bo := ⟨[(0, [[.S]])], []⟩, np := 2, ext := false }]
  | 32 => [{ bi := ⟨[(0, [[.F]]), (1, [[.S]])], []⟩, bo := ⟨[(0, [[.S]])], []⟩, np := 2, ext := false }]
  | 35 => [{ bi := ⟨[(0, [[.F]])], []⟩, bo := ⟨[(0, [[.U 4]])], []⟩, np := 1, ext := false }]
  | 37 => [{ bi := ⟨[(0, [[.S, .S, .S, .F]]), (1, [[.S, .S, .S, .F]])], []⟩, bo := ⟨[(0, [[.S]])], []⟩, np := 2, ext := false }]
  | 38 => [{ bi := ⟨[(0, [[.F]]), (1, [[.F]])], []⟩, bo := ⟨[(0, [[.S]])], []⟩, np := 2, ext := false }]
  | 48 => [{ bi := ⟨[(0, [[.S, .S, .S, .F]]), (1, [[.S, .S, .S, .F]])], []⟩, bo := ⟨[(0, [[.S]])], []⟩, np := 2, ext := false }]
  | 50 => [{ bi := ⟨[(0, [[.S, .S, .S, .F]]), (1, [[.S]])], []⟩, bo := ⟨[(0, [[.S]])], []⟩, np := 2, ext := false }]
  | 52 => [{ bi := ⟨[(0, [[.S, .S, .S, .F]])], []⟩, bo := ⟨[(0, [[.S, .S, .S, .U 4]])], []⟩, np := 1, ext := false }]
  | 61 => [{ bi := ⟨[(0, [[.S, .S, .S, .F]])], []⟩, bo := ⟨[(0, [[.S]])], []⟩, np := 1, ext := false }]
  | 68 => [{ bi := ⟨[(0, [[.S, .S, .S, .F, .F, .F, .S]]), (1, [[.S]])], []⟩, bo := ⟨[(0, [[.S]])], []⟩, np := 2, ext := false }]
  | 69 => [{ bi := ⟨[(0, [[.S]]), (1, [[.S]]), (2, [[.S]])], []⟩, bo := ⟨[(0, [[.S]])], []⟩, np := 3, ext := false }]
  | 70 => [{ bi := ⟨[(0, [[.S, .S, .S, .F, .F, .F, .S]])], []⟩, bo := ⟨[(0, [[.S]])], []⟩, np := 1, ext := false }]
  | 71 => [{ bi := ⟨[(0, [[.F]]), (1, [[.S]])], []⟩, bo := ⟨[(0, [[.S]])], []⟩, np := 2, ext := false }]
  | 72 => [{ bi := ⟨[(0, [[.F]])], []⟩, bo := ⟨[(0, [[.S]])], []⟩, np := 1, ext := false }]
  | 73 => [{ bi := ⟨[(0, [[.F]])], []⟩, bo := ⟨[(0, [[.U 1]])], []⟩, np := 1, ext := false }]
  | 74 => [{ bi := ⟨[(0, [[.S, .S, .S, .F, .F, .F, .S]])], []⟩, bo := ⟨[(0, [[.S, .S, .S, .U 7, .U 1, .U 1, .S]])], []⟩, np := 1, ext := false }]
  | 75 => [{ bi := ⟨[(0, [[.S]]), (1, [[.S]]), (2, [[.S]])], []⟩, bo := ⟨[(0, [[.S]])], []⟩, np := 3, ext := false }]
  | 76 => [{ bi := ⟨[(0, [[.S, .S, .S, .F, .F, .F, .S]])], []⟩, bo := ⟨[(0, [[.S]])], []⟩, np := 1, ext := false }]
  | 77 => [{ bi := ⟨[(0, [[.F]]), (1, [[.S]])], []⟩, bo := ⟨[(0, [[.S]])], []⟩, np := 2, ext := false }]
  | 78 => [{ bi := ⟨[(0, [[.S, .S, .S, .F, .F, .F, .S]]), (1, [[.S, .S, .S, .F, .F, .F, .S]])], []⟩, bo := ⟨[(0, [[.S]])], []⟩, np := 2, ext := false }]
  | 96 => [{ bi := ⟨[(0, [[.F]]), (1, [[.S]])], []⟩, bo := ⟨[(0, [[.S]])], []⟩, np := 2, ext := false }]
  | 108 => [{ bi := ⟨[(0, [[.S, .S, .S, .F]])], []⟩, bo := ⟨[(0, [[.S]])], []⟩, np := 1, ext := false }]
  | 122 => [{ bi := ⟨[(0, [[.F]]), (1, [[.F]]), (2, [[.S]])], []⟩, bo := ⟨[(0, [[.S]])], []⟩, np := 3, ext := false }]
  | 133 => [{ bi := ⟨[(0, [[.S, .S, .S, .F]]), (1, [[.S]])], []⟩, bo := ⟨[(0, [[.S]])], []⟩, np := 2, ext := false }]
  | 149 => [{ bi := ⟨[(0, [[.F]]), (1, [[.S]])], []⟩, bo := ⟨[(0, [[.S]])], []⟩, np := 2, ext := false }]
  | 150 => [{ bi := ⟨[(0, [[.F]]), (1, [[.S]])], []⟩, bo := ⟨[(0, [[.S]])], []⟩, np := 2, ext := false }]
  | 151 => [{ bi := ⟨[(0, [[.S, .S, .S, .S, .S, .F, .S]])], []⟩, bo := ⟨[(0, [[.S]])], []⟩, np := 1, ext := false }]
  | 152 => [{ bi := ⟨[(0, [[.F]])], []⟩, bo := ⟨[(0, [[.U 7]])], []⟩, np := 1, ext := false }]
  | 153 => [{ bi := ⟨[(0, [[.F]])], []⟩, bo := ⟨[(0, [[.U 1]])], []⟩, np := 1, ext := false }]
  | 154 => [{ bi := ⟨[(0, [[.S, .S, .S, .S, .S, .F, .S]])], []⟩, bo := ⟨[(0, [[.S]])], []⟩, np := 1, ext := false }]
  | 155 => [{ bi := ⟨[(0, [[.F]])], []⟩, bo := ⟨[(0, [[.S]])], []⟩, np := 1, ext := false }]
  | 156 => [{ bi := ⟨[(0, [[.F]]), (1, [[.S]])], []⟩, bo := ⟨[(0, [[.S]])], []⟩, np := 2, ext := false }]
  | 157 => [{ bi := ⟨[(0, [[.F]]), (1, [[.F]])], []⟩, bo := ⟨[(0, [[.S]])], []⟩, np := 2, ext := false }]
  | 158 => [{ bi := ⟨[(0, [[.F]]), (1, [[.F]])], []⟩, bo := ⟨[(0, [[.S]])], []⟩, np := 2, ext := false }]
  | 185 => [{ bi := ⟨[(0, [[.S, .S, .S, .F]]), (1, [[.S]]), (2, [[.S]])], []⟩, bo := ⟨[(0, [[.S]])], []⟩, np := 3, ext := false }]
  | 194 => [{ bi := ⟨[(0, [[.S]])], []⟩, bo := ⟨[(0, [[.S]])], []⟩, np := 1, ext := false }]
  | 196 => [{ bi := ⟨[(0, [[.S]])], []⟩, bo := ⟨[(0, [[.S]])], []⟩, np := 1, ext := false }]
  | 203 => [{ bi := ⟨[(0, [[.S, .S, .S, .F]])], []⟩, bo := ⟨[(0, [[.S]])], []⟩, np := 1, ext := false }]
  | 209 => [{ bi := ⟨[(0, [[.S, .S, .S, .S, .S, .F, .S]]), (1, [[.S]])], []⟩, bo := ⟨[(0, [[.S]])], []⟩, np := 2, ext := false }]
  | 210 => [{ bi := ⟨[(0, [[.S, .S, .S, .F]])], []⟩, bo := ⟨[(0, [[.S]])], []⟩, np := 1, ext := false }]
  | 211 => [{ bi := ⟨[(0, [[.S, .S, .S, .S, .S, .F, .S]])], []⟩, bo := ⟨[(0, [[.S, .S, .S, .S, .S, .U 4, .S]])], []⟩, np := 1, ext := false }]
  | 212 => [{ bi := ⟨[(0, [[.S, .S, .S, .F]])], []⟩, bo := ⟨[(0, [[.S]])], []⟩, np := 1, ext := false }]
  | 213 => [{ bi := ⟨[(0, [[.S]]), (1, [[.S]])], []⟩, bo := ⟨[(0, [[.S]])], []⟩, np := 2, ext := false }]
  | 214 => [{ bi := ⟨[(0, [[.S, .S, .S, .S, .S, .F, .S]]), (1, [[.S, .S, .S, .S, .S, .F, .S]])], []⟩, bo := ⟨[(0, [[.S]])], []⟩, np := 2, ext := false }]
  | 233 => [{ bi := ⟨[(0, [[.S, .S, .S, .F]])], []⟩, bo := ⟨[(0, [[.S]])], []⟩, np := 1, ext := false }]
  | 236 => [{ bi := ⟨[(0, [[.S]])], []⟩, bo := ⟨[(0, [[.S]])], []⟩, np := 1, ext := false }]
  | 237 => [{ bi := ⟨[(0, [[.S]])], []⟩, bo := ⟨[(0, [[.S]])], []⟩, np := 1, ext := false }]
  | 247 => [{ bi := ⟨[(0, [[.S]])], []⟩, bo := ⟨[(0, [[.S]])], []⟩, np := 1, ext := false }]
  | _ => []
end Go.Own
