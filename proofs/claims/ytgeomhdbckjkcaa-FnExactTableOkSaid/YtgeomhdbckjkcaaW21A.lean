/- What is told of the functions: shapes and kinds. No conditions. -/
import Derived.Test.YtgeomhdbckjkcaaProg
import Derived.KernelRfl
import Derived.Test.YtgeomhdbckjkcaaOwn3
set_option linter.unusedVariables false
set_option linter.unusedSimpArgs false
set_option linter.unnecessarySimpa false
namespace Go.Own
open Go Go.Proofs
def τ : TypeId → Option TI
  | 3 => some { size := 1, bytes := 8, zero := [.int .i64 0], agg := false, kind := .int .i64 }
  | 4 => some { size := 1, bytes := 1, zero := [.bool false], agg := false, kind := .bool }
  | 5 => some { size := 1, bytes := 1, zero := [.int .u8 0], agg := false, kind := .int .u8 }
  | 9 => some { size := 1, bytes := 16, zero := [.str []], agg := false, kind := .str }
  | 29 => some { size := 1, bytes := 24, zero := [.sl []], agg := false, kind := .sl 134 }
  | 31 => some { size := 1, bytes := 24, zero := [.sl []], agg := false, kind := .sl 189 }
  | 32 => some { size := 1, bytes := 24, zero := [.sl []], agg := false, kind := .sl 196 }
  | 34 => some { size := 2, bytes := 48, zero := [.sl [], .sl []], agg := true, kind := .struct [(0, 1, false), (1, 1, false)] }
  | 37 => some { size := 1, bytes := 24, zero := [.sl []], agg := false, kind := .sl 137 }
  | 112 => some { size := 1, bytes := 24, zero := [.sl []], agg := false, kind := .sl 3 }
  | 129 => some { size := 1, bytes := 24, zero := [.sl []], agg := false, kind := .sl 294 }
  | 130 => some { size := 1, bytes := 24, zero := [.sl []], agg := false, kind := .sl 297 }
  | 132 => some { size := 2, bytes := 48, zero := [.sl [], .sl []], agg := true, kind := .struct [(0, 1, false), (1, 1, false)] }
  | 134 => some { size := 7, bytes := 128, zero := [.str [], .int .i64 0, .sl [], .sl [], .bool false, .sl [], .sl []], agg := true, kind := .struct [(0, 1, false), (1, 1, false), (2, 2, true), (4, 1, false), (5, 2, true)] }
  | 137 => some { size := 7, bytes := 128, zero := [.str [], .int .i64 0, .sl [], .sl [], .bool false, .sl [], .sl []], agg := true, kind := .struct [(0, 1, false), (1, 1, false), (2, 2, true), (4, 1, false), (5, 2, true)] }
  | 187 => some { size := 1, bytes := 24, zero := [.sl []], agg := false, kind := .sl 192 }
  | 189 => some { size := 4, bytes := 56, zero := [.str [], .int .i64 0, .int .i64 0, .sl []], agg := true, kind := .struct [(0, 1, false), (1, 1, false), (2, 1, false), (3, 1, false)] }
  | 192 => some { size := 4, bytes := 40, zero := [.int .i64 0, .int .i64 0, .str [], .int .i64 0], agg := true, kind := .struct [(0, 1, false), (1, 1, false), (2, 1, false), (3, 1, false)] }
  | 196 => some { size := 4, bytes := 56, zero := [.int .i64 0, .int .i64 0, .str [], .sl []], agg := true, kind := .struct [(0, 1, false), (1, 1, false), (2, 1, false), (3, 1, false)] }
  | 289 => some { size := 3, bytes := 40, zero := [.int .i64 0, .int .i64 0, .sl []], agg := true, kind := .struct [(0, 1, false), (1, 1, false), (2, 1, false)] }
  | 292 => some { size := 1, bytes := 24, zero := [.sl []], agg := false, kind := .sl 327 }
  | 294 => some { size := 4, bytes := 56, zero := [.str [], .int .i64 0, .int .i64 0, .sl []], agg := true, kind := .struct [(0, 1, false), (1, 1, false), (2, 1, false), (3, 1, false)] }
  | 297 => some { size := 4, bytes := 56, zero := [.int .i64 0, .int .i64 0, .str [], .sl []], agg := true, kind := .struct [(0, 1, false), (1, 1, false), (2, 1, false), (3, 1, false)] }
  | 313 => some { size := 2, bytes := 32, zero := [.sl [], .bool false], agg := true, kind := .struct [(0, 1, false), (1, 1, false)] }
  | 327 => some { size := 4, bytes := 40, zero := [.int .i64 0, .int .i64 0, .str [], .int .i64 0], agg := true, kind := .struct [(0, 1, false), (1, 1, false), (2, 1, false), (3, 1, false)] }
  | _ => none
set_option maxRecDepth 100000 in
theorem tables : Tables Try.prog τ := by
  intro t i h
  unfold τ at h
  split at h <;> (try cases h)
  · exact ⟨_, _, _, rfl, rfl, rfl, rfl, rfl, rfl, rfl, by decide, rfl, rfl⟩
  · exact ⟨_, _, _, rfl, rfl, rfl, rfl, rfl, rfl, rfl, by decide, rfl, rfl⟩
  · exact ⟨_, _, _, rfl, rfl, rfl, rfl, rfl, rfl, rfl, by decide, rfl, rfl⟩
  · exact ⟨_, _, _, rfl, rfl, rfl, rfl, rfl, rfl, rfl, by decide, rfl, rfl⟩
  · exact ⟨_, _, _, rfl, rfl, rfl, rfl, rfl, rfl, rfl, by decide, rfl, rfl⟩
  · exact ⟨_, _, _, rfl, rfl, rfl, rfl, rfl, rfl, rfl, by decide, rfl, rfl⟩
  · exact ⟨_, _, _, rfl, rfl, rfl, rfl, rfl, rfl, rfl, by decide, rfl, rfl⟩
  · refine ⟨_, _, _, rfl, rfl, rfl, rfl, rfl, rfl, rfl, by decide, rfl, _, rfl, rfl, fun j f hf => ?_⟩
    match j with
    | 0 => simp at hf; subst hf; exact ⟨_, _, rfl, rfl, rfl, rfl, by decide, rfl, rfl⟩
    | 1 => simp at hf; subst hf; exact ⟨_, _, rfl, rfl, rfl, rfl, by decide, rfl, rfl⟩
    | j + 2 => simp at hf
  · exact ⟨_, _, _, rfl, rfl, rfl, rfl, rfl, rfl, rfl, by decide, rfl, rfl⟩
  · exact ⟨_, _, _, rfl, rfl, rfl, rfl, rfl, rfl, rfl, by decide, rfl, rfl⟩
  · exact ⟨_, _, _, rfl, rfl, rfl, rfl, rfl, rfl, rfl, by decide, rfl, rfl⟩
  · exact ⟨_, _, _, rfl, rfl, rfl, rfl, rfl, rfl, rfl, by decide, rfl, rfl⟩
  · refine ⟨_, _, _, rfl, rfl, rfl, rfl, rfl, rfl, rfl, by decide, rfl, _, rfl, rfl, fun j f hf => ?_⟩
    match j with
    | 0 => simp at hf; subst hf; exact ⟨_, _, rfl, rfl, rfl, rfl, by decide, rfl, rfl⟩
    | 1 => simp at hf; subst hf; exact ⟨_, _, rfl, rfl, rfl, rfl, by decide, rfl, rfl⟩
    | j + 2 => simp at hf
  · refine ⟨_, _, _, rfl, rfl, rfl, rfl, rfl, rfl, rfl, by decide, rfl, _, rfl, rfl, fun j f hf => ?_⟩
    match j with
    | 0 => simp at hf; subst hf; exact ⟨_, _, rfl, rfl, rfl, rfl, by decide, rfl, rfl⟩
    | 1 => simp at hf; subst hf; exact ⟨_, _, rfl, rfl, rfl, rfl, by decide, rfl, rfl⟩
    | 2 => simp at hf; subst hf; exact ⟨_, _, rfl, rfl, rfl, rfl, by decide, rfl, rfl⟩
    | 3 => simp at hf; subst hf; exact ⟨_, _, rfl, rfl, rfl, rfl, by decide, rfl, rfl⟩
    | 4 => simp at hf; subst hf; exact ⟨_, _, rfl, rfl, rfl, rfl, by decide, rfl, rfl⟩
    | j + 5 => simp at hf
  · refine ⟨_, _, _, rfl, rfl, rfl, rfl, rfl, rfl, rfl, by decide, rfl, _, rfl, rfl, fun j f hf => ?_⟩
    match j with
    | 0 => simp at hf; subst hf; exact ⟨_, _, rfl, rfl, rfl, rfl, by decide, rfl, rfl⟩
    | 1 => simp at hf; subst hf; exact ⟨_, _, rfl, rfl, rfl, rfl, by decide, rfl, rfl⟩
    | 2 => simp at hf; subst hf; exact ⟨_, _, rfl, rfl, rfl, rfl, by decide, rfl, rfl⟩
    | 3 => simp at hf; subst hf; exact ⟨_, _, rfl, rfl, rfl, rfl, by decide, rfl, rfl⟩
    | 4 => simp at hf; subst hf; exact ⟨_, _, rfl, rfl, rfl, rfl, by decide, rfl, rfl⟩
    | j + 5 => simp at hf
  · exact ⟨_, _, _, rfl, rfl, rfl, rfl, rfl, rfl, rfl, by decide, rfl, rfl⟩
  · refine ⟨_, _, _, rfl, rfl, rfl, rfl, rfl, rfl, rfl, by decide, rfl, _, rfl, rfl, fun j f hf => ?_⟩
    match j with
    | 0 => simp at hf; subst hf; exact ⟨_, _, rfl, rfl, rfl, rfl, by decide, rfl, rfl⟩
    | 1 => simp at hf; subst hf; exact ⟨_, _, rfl, rfl, rfl, rfl, by decide, rfl, rfl⟩
    | 2 => simp at hf; subst hf; exact ⟨_, _, rfl, rfl, rfl, rfl, by decide, rfl, rfl⟩
    | 3 => simp at hf; subst hf; exact ⟨_, _, rfl, rfl, rfl, rfl, by decide, rfl, rfl⟩
    | j + 4 => simp at hf
  · refine ⟨_, _, _, rfl, rfl, rfl, rfl, rfl, rfl, rfl, by decide, rfl, _, rfl, rfl, fun j f hf => ?_⟩
    match j with
    | 0 => simp at hf; subst hf; exact ⟨_, _, rfl, rfl, rfl, rfl, by decide, rfl, rfl⟩
    | 1 => simp at hf; subst hf; exact ⟨_, _, rfl, rfl, rfl, rfl, by decide, rfl, rfl⟩
    | 2 => simp at hf; subst hf; exact ⟨_, _, rfl, rfl, rfl, rfl, by decide, rfl, rfl⟩
    | 3 => simp at hf; subst hf; exact ⟨_, _, rfl, rfl, rfl, rfl, by decide, rfl, rfl⟩
    | j + 4 => simp at hf
  · refine ⟨_, _, _, rfl, rfl, rfl, rfl, rfl, rfl, rfl, by decide, rfl, _, rfl, rfl, fun j f hf => ?_⟩
    match j with
    | 0 => simp at hf; subst hf; exact ⟨_, _, rfl, rfl, rfl, rfl, by decide, rfl, rfl⟩
    | 1 => simp at hf; subst hf; exact ⟨_, _, rfl, rfl, rfl, rfl, by decide, rfl, rfl⟩
    | 2 => simp at hf; subst hf; exact ⟨_, _, rfl, rfl, rfl, rfl, by decide, rfl, rfl⟩
    | 3 => simp at hf; subst hf; exact ⟨_, _, rfl, rfl, rfl, rfl, by decide, rfl, rfl⟩
    | j + 4 => simp at hf
  · refine ⟨_, _, _, rfl, rfl, rfl, rfl, rfl, rfl, rfl, by decide, rfl, _, rfl, rfl, fun j f hf => ?_⟩
    match j with
    | 0 => simp at hf; subst hf; exact ⟨_, _, rfl, rfl, rfl, rfl, by decide, rfl, rfl⟩
    | 1 => simp at hf; subst hf; exact ⟨_, _, rfl, rfl, rfl, rfl, by decide, rfl, rfl⟩
    | 2 => simp at hf; subst hf; exact ⟨_, _, rfl, rfl, rfl, rfl, by decide, rfl, rfl⟩
    | j + 3 => simp at hf
  · exact ⟨_, _, _, rfl, rfl, rfl, rfl, rfl, rfl, rfl, by decide, rfl, rfl⟩
  · refine ⟨_, _, _, rfl, rfl, rfl, rfl, rfl, rfl, rfl, by decide, rfl, _, rfl, rfl, fun j f hf => ?_⟩
    match j with
    | 0 => simp at hf; subst hf; exact ⟨_, _, rfl, rfl, rfl, rfl, by decide, rfl, rfl⟩
    | 1 => simp at hf; subst hf; exact ⟨_, _, rfl, rfl, rfl, rfl, by decide, rfl, rfl⟩
    | 2 => simp at hf; subst hf; exact ⟨_, _, rfl, rfl, rfl, rfl, by decide, rfl, rfl⟩
    | 3 => simp at hf; subst hf; exact ⟨_, _, rfl, rfl, rfl, rfl, by decide, rfl, rfl⟩
    | j + 4 => simp at hf
  · refine ⟨_, _, _, rfl, rfl, rfl, rfl, rfl, rfl, rfl, by decide, rfl, _, rfl, rfl, fun j f hf => ?_⟩
    match j with
    | 0 => simp at hf; subst hf; exact ⟨_, _, rfl, rfl, rfl, rfl, by decide, rfl, rfl⟩
    | 1 => simp at hf; subst hf; exact ⟨_, _, rfl, rfl, rfl, rfl, by decide, rfl, rfl⟩
    | 2 => simp at hf; subst hf; exact ⟨_, _, rfl, rfl, rfl, rfl, by decide, rfl, rfl⟩
    | 3 => simp at hf; subst hf; exact ⟨_, _, rfl, rfl, rfl, rfl, by decide, rfl, rfl⟩
    | j + 4 => simp at hf
  · refine ⟨_, _, _, rfl, rfl, rfl, rfl, rfl, rfl, rfl, by decide, rfl, _, rfl, rfl, fun j f hf => ?_⟩
    match j with
    | 0 => simp at hf; subst hf; exact ⟨_, _, rfl, rfl, rfl, rfl, by decide, rfl, rfl⟩
    | 1 => simp at hf; subst hf; exact ⟨_, _, rfl, rfl, rfl, rfl, by decide, rfl, rfl⟩
    | j + 2 => simp at hf
  · refine ⟨_, _, _, rfl, rfl, rfl, rfl, rfl, rfl, rfl, by decide, rfl, _, rfl, rfl, fun j f hf => ?_⟩
    match j with
    | 0 => simp at hf; subst hf; exact ⟨_, _, rfl, rfl, rfl, rfl, by decide, rfl, rfl⟩
    | 1 => simp at hf; subst hf; exact ⟨_, _, rfl, rfl, rfl, rfl, by decide, rfl, rfl⟩
    | 2 => simp at hf; subst hf; exact ⟨_, _, rfl, rfl, rfl, rfl, by decide, rfl, rfl⟩
    | 3 => simp at hf; subst hf; exact ⟨_, _, rfl, rfl, rfl, rfl, by decide, rfl, rfl⟩
    | j + 4 => simp at hf
abbrev vi : V := .one (.c (.int .i64 0))
abbrev vy : V := .one (.c (.int .u8 0))
abbrev vb : V := .one (.c (.bool false))
abbrev vl : V := .one (.c (.sl []))
abbrev vs : V := .one (.c (.str []))
abbrev vj : V := .one .junk
abbrev tl0 : List T := [.str [], .int .i64 0, .int .i64 0, .sl []]
abbrev tl1 : List T := [.str [], .int .i64 0, .sl [], .sl [], .bool false, .sl [], .sl []]
abbrev tl2 : List T := [.int .i64 0, .int .i64 0, .str [], .int .i64 0]
abbrev tl3 : List T := [.int .i64 0, .int .i64 0, .str [], .sl []]
abbrev tl5 : List T := [.int .i64 0, .int .i64 0, .sl []]
abbrev tl6 : List T := [.sl [], .bool false]
abbrev tl7 : List T := [.int .i64 0, .sl []]
def F9 : FA := { n := 27, sh := [vl, vj, vb, vi, vb, vl, vb, vl, vi, vi, vi, vb, vl, vl, vb, vl, vl, vl, vb, vb, vb, vb, vl, vl, vl, vb, vb], obs := [], tk := [8, 10, 19, 20, 22, 23], keep := [(0, [0]), (1, [0, 3]), (2, [0, 3]), (3, [0, 11]), (4, [2]), (5, [0, 4]), (6, [0, 4, 5]), (7, [0, 4, 5, 6]), (8, [0, 5, 21]), (9, [2]), (10, [26]), (11, [2]), (12, [2])] }
def F17 : FA := { n := 27, sh := [vl, vi, vj, vj, vi, vi, vi, vl, vi, vi, vi, vb, vi, vl, vi, vb, vi, vi, vl, vi, .one (.cp tl1), .one (.ag tl1), vi, vi, vi, vb, vi], obs := [], tk := [6, 16, 22, 26], keep := [(0, [0, 1]), (1, [0, 1]), (2, [0, 1, 11]), (3, [4]), (4, [0, 1, 5]), (5, [0, 1, 5, 15]), (6, [0, 1, 5]), (7, [0, 1, 5]), (8, [0, 1, 5, 25]), (9, [4]), (10, [4])] }
def F19 : FA := { n := 23, sh := [vl, vj, vl, vl, vi, vl, vi, vl, vi, vl, vi, vb, vi, vi, .one (.al (.s 3 0 0) []), vi, vl, vi, .one (.cp tl1), .one (.ag tl1), .one (.ag tl1), .one (.pp (.s 3 0 0) [] 0 0), vl], obs := [], al := [14], tk := [12, 22], keep := [(0, [0]), (1, [0, 3]), (2, [0, 3, 4]), (3, [0, 3, 4, 11]), (4, [0, 3, 4]), (5, [0, 3, 4]), (6, [2])] }
def F21 : FA := { n := 17, sh := [.one (.ag [.sl [], .sl []]), .one (.ag [.sl [], .sl []]), .one (.ptr 2 0), .one (.ptr 3 0), vb, .one (.ptr 2 0), vl, .one (.ptr 3 0), vl, vb, vb, .one (.ptr 2 1), vl, .one (.ptr 3 1), vl, vb, vb], obs := [(2, [.sl [], .sl []]), (3, [.sl [], .sl []])], tk := [6, 8, 12, 14], keep := [(0, [2, 3]), (1, [2, 3, 10]), (2, [4]), (3, [16]), (4, [4]), (5, [4])] }
def F22 : FA := { n := 27, sh := [vl, vl, vj, vj, vb, vi, vl, vi, vl, vi, vb, vi, vl, vi, vb, vi, vi, vl, vi, .one (.cp tl1), .one (.ag tl1), vl, vi, .one (.cp tl1), .one (.ag tl1), vb, vb], obs := [], tk := [15], keep := [(0, [0, 1]), (1, [0, 1, 10]), (2, [4]), (3, [0, 1, 5]), (4, [0, 1, 5, 14]), (5, [0, 1, 5]), (6, [0, 1, 5, 26]), (7, [4]), (8, [4])] }
def F56 : FA := { n := 37, sh := [vl, vj, vb, vi, vi, vl, vi, vb, vi, vi, vl, vi, .one (.cp tl1), .one (.ag tl1), vb, vb, vb, vi, vb, vb, vl, vi, vi, .one (.cp tl1), .one (.cp tl1), vs, vl, vi, .one (.cp tl1), .one (.cp tl1), vs, vb, vb, vb, vl, vi, vb], obs := [], tk := [8, 16, 19, 34], keep := [(0, [0]), (1, [0, 3]), (2, [0, 3, 7]), (3, [0, 3]), (4, [0, 3, 33]), (5, [2]), (6, [2])] }
def F57 : FA := { n := 34, sh := [vl, vj, vb, vi, .one (.ptr 4 0), vl, vi, vi, vb, vi, .one (.cp tl1), .one (.ag tl1), .one (.ag tl1), vb, vb, vb, vi, vb, vb, .one (.ptr 4 0), vs, vl, vi, vi, .one (.cp tl1), .one (.cp tl1), vs, vb, vb, vb, vi, vl, vi, vb], obs := [(4, tl1)], tk := [7, 15, 18, 20, 22, 31], keep := [(0, [0]), (1, [0, 5, 6, 7]), (2, [0, 5, 6, 7, 8]), (3, [0, 3, 4, 5, 6, 7]), (4, [0, 5, 6, 7, 29]), (5, [2]), (6, [0, 5, 6, 7]), (7, [2])] }
def F69 : FA := { n := 15, sh := [vi, vi, vi, vj, vj, vj, vb, vi, vi, vb, vb, vi, vi, vb, vb], obs := [], tk := [8, 10, 11, 12], keep := [(0, [0, 1, 2]), (1, [6])] }
def F75 : FA := { n := 15, sh := [vi, vi, vi, vj, vj, vj, vb, vi, vi, vb, vb, vi, vi, vb, vb], obs := [], tk := [8, 10, 11, 12], keep := [(0, [0, 1, 2]), (1, [6])] }
def F79 : FA := { n := 25, sh := [.one (.ag tl1), vi, .one (.ptr 2 0), vj, vi, vi, .one (.ptr 2 0), vs, vi, vi, vi, vb, .one (.ptr 2 2), .one (.ag [.sl [], .sl []]), vi, vi, vi, vb, .one (.ptr 2 5), .one (.ag [.sl [], .sl []]), vi, vi, vi, vb, vi], obs := [(2, tl1)], tk := [5, 7, 13, 14, 19, 20, 24], keep := [(0, [1, 2]), (1, [1, 2]), (2, [1, 2, 11]), (3, [4]), (4, [1, 2]), (5, [1, 2, 17]), (6, [4]), (7, [1]), (8, [1, 23]), (9, [4]), (10, [4])] }
def F82 : FA := { n := 22, sh := [.one (.ag tl1), .one (.ptr 1 0), .one (.ptr 2 0), .one (.ptr 3 0), .one (.ptr 1 0), vs, .one (.ptr 3 0), .one (.ptr 1 1), vi, .one (.ptr 3 1), .one (.ptr 1 2), .one (.ag [.sl [], .sl []]), .one (.ag [.sl [], .sl []]), .one (.ptr 3 2), .one (.ptr 1 4), vb, .one (.ptr 3 4), .one (.ptr 1 5), .one (.ag [.sl [], .sl []]), .one (.ag [.sl [], .sl []]), .one (.ptr 3 5), .one (.ag tl1)], obs := [(1, tl1), (2, tl1), (3, tl1)], tk := [5, 8, 11, 15, 18, 21], keep := [(0, [1, 2]), (1, [1, 2, 3]), (2, [1, 2, 3]), (3, [1, 2, 3]), (4, [1, 2, 3]), (5, [1, 2, 3]), (6, [2, 3]), (7, [2])] }
def F85 : FA := { n := 27, sh := [vl, vl, vj, vj, vb, vi, vl, vi, vl, vi, vb, vi, vl, vi, vb, vi, vi, vl, vi, .one (.cp tl0), .one (.ag tl0), vl, vi, .one (.cp tl0), .one (.ag tl0), vb, vb], obs := [], tk := [15], keep := [(0, [0, 1]), (1, [0, 1, 10]), (2, [4]), (3, [0, 1, 5]), (4, [0, 1, 5, 14]), (5, [0, 1, 5]), (6, [0, 1, 5, 26]), (7, [4]), (8, [4])] }
def F86 : FA := { n := 27, sh := [vl, vl, vj, vj, vb, vi, vl, vi, vl, vi, vb, vi, vl, vi, vb, vi, vi, vl, vi, .one (.cp tl3), .one (.ag tl3), vl, vi, .one (.cp tl3), .one (.ag tl3), vb, vb], obs := [], tk := [15], keep := [(0, [0, 1]), (1, [0, 1, 10]), (2, [4]), (3, [0, 1, 5]), (4, [0, 1, 5, 14]), (5, [0, 1, 5]), (6, [0, 1, 5, 26]), (7, [4]), (8, [4])] }
def F87 : FA := { n := 32, sh := [.one (.ag tl1), .one (.ag tl1), .one (.ptr 2 0), .one (.ptr 3 0), vb, .one (.ptr 2 0), vs, .one (.ptr 3 0), vs, vb, .one (.ptr 2 1), vi, .one (.ptr 3 1), vi, vb, .one (.ptr 2 2), .one (.ag [.sl [], .sl []]), .one (.ptr 3 2), .one (.ag [.sl [], .sl []]), vb, vb, .one (.ptr 2 4), vb, .one (.ptr 3 4), vb, vb, .one (.ptr 2 5), .one (.ag [.sl [], .sl []]), .one (.ptr 3 5), .one (.ag [.sl [], .sl []]), vb, vb], obs := [(2, tl1), (3, tl1)], tk := [6, 8, 11, 13, 16, 18, 22, 24, 27, 29], keep := [(0, [2, 3]), (1, [2, 3, 9]), (2, [4]), (3, [2, 3, 14]), (4, [4]), (5, [2, 3, 20]), (6, [4]), (7, [2, 3, 25]), (8, [4]), (9, [31]), (10, [4]), (11, [4])] }
def F126 : FA := { n := 42, sh := [.one (.ag tl1), .one (.ptr 1 0), vb, .one (.ptr 1 0), vs, vb, vb, vb, .one (.ptr 1 1), vi, vb, vb, vb, vb, .one (.ptr 1 2), .one (.ag [.sl [], .sl []]), vb, vb, vb, vb, .one (.ptr 1 5), .one (.ag [.sl [], .sl []]), vb, vb, vb, .one (.ptr 1 4), vb, .one (.ptr 1 1), vi, vb, .one (.ptr 1 5), .one (.ptr 1 5), vl, vi, vb, vb, .one (.ptr 1 5), .one (.ptr 1 6), vl, vi, vb, vb], obs := [(1, tl1)], tk := [4, 7, 13, 15, 19, 26, 28, 32, 35, 38], keep := [(0, [1]), (1, [1, 24]), (2, [2]), (3, [1, 26]), (4, [2]), (5, [2])] }
def F127 : FA := { n := 42, sh := [.one (.ag tl1), .one (.ptr 1 0), vb, .one (.ptr 1 0), vs, vb, vb, vb, .one (.ptr 1 1), vi, vb, vb, vb, vb, .one (.ptr 1 2), .one (.ag [.sl [], .sl []]), vb, vb, vb, vb, .one (.ptr 1 5), .one (.ag [.sl [], .sl []]), vb, vb, vb, .one (.ptr 1 4), vb, .one (.ptr 1 1), vi, vb, .one (.ptr 1 5), .one (.ptr 1 5), vl, vi, vb, vb, .one (.ptr 1 5), .one (.ptr 1 6), vl, vi, vb, vb], obs := [(1, tl1)], tk := [4, 7, 13, 15, 19, 26, 28, 32, 35, 38], keep := [(0, [1]), (1, [1, 24]), (2, [2]), (3, [1, 26]), (4, [2]), (5, [2])] }
def F144 : FA := { n := 38, sh := [.one (.ag [.sl [], .sl []]), .one (.ptr 1 0), vb, vi, .one (.ptr 1 0), vl, vi, vb, vb, .one (.ptr 1 1), vl, vi, vb, vb, .one (.ptr 1 0), vl, vi, vi, vb, vi, .one (.ptr 1 0), vl, vi, .one (.cp tl0), .one (.cp tl0), vs, vi, vi, vb, vb, .one (.ptr 1 0), vl, vi, .one (.cp tl0), vb, vb, vb, vi], obs := [(1, [.sl [], .sl []])], tk := [8, 17, 29, 32], keep := [(0, [1]), (1, [1, 13]), (2, [2]), (3, [1, 16, 17]), (4, [1, 16, 17, 18]), (5, [1, 3, 16, 17]), (6, [1, 16, 17, 36]), (7, [2]), (8, [1, 16, 17]), (9, [2])] }
def F159 : FA := { n := 18, sh := [.one (.ag [.sl [], .sl []]), vi, .one (.ptr 2 0), vj, vi, .one (.ptr 2 0), vl, vi, vi, vi, vb, .one (.ptr 2 1), vl, vi, vi, vi, vb, vi], obs := [(2, [.sl [], .sl []])], tk := [6, 7, 12, 13, 17], keep := [(0, [1, 2]), (1, [1, 2]), (2, [1, 2, 10]), (3, [4]), (4, [1]), (5, [1, 16]), (6, [4]), (7, [4])] }
def F162 : FA := { n := 13, sh := [.one (.ag [.sl [], .sl []]), .one (.ptr 1 0), .one (.ptr 2 0), .one (.ptr 3 0), .one (.ptr 1 0), vl, vl, .one (.ptr 3 0), .one (.ptr 1 1), vl, vl, .one (.ptr 3 1), .one (.ag [.sl [], .sl []])], obs := [(1, [.sl [], .sl []]), (2, [.sl [], .sl []]), (3, [.sl [], .sl []])], tk := [5, 9, 12], keep := [(0, [1, 2]), (1, [1, 2, 3]), (2, [1, 2, 3]), (3, [2, 3]), (4, [2])] }
def F166 : FA := { n := 26, sh := [.one (.ag tl0), .one (.ag tl0), .one (.ptr 2 0), .one (.ptr 3 0), vb, .one (.ptr 2 0), vs, .one (.ptr 3 0), vs, vb, .one (.ptr 2 1), vi, .one (.ptr 3 1), vi, vb, .one (.ptr 2 2), vi, .one (.ptr 3 2), vi, vb, .one (.ptr 2 3), vl, .one (.ptr 3 3), vl, vb, vb], obs := [(2, tl0), (3, tl0)], tk := [6, 8, 11, 13, 16, 18, 21, 23], keep := [(0, [2, 3]), (1, [2, 3, 9]), (2, [4]), (3, [2, 3, 14]), (4, [4]), (5, [2, 3, 19]), (6, [4]), (7, [25]), (8, [4]), (9, [4])] }
def F167 : FA := { n := 26, sh := [.one (.ag tl3), .one (.ag tl3), .one (.ptr 2 0), .one (.ptr 3 0), vb, .one (.ptr 2 0), vi, .one (.ptr 3 0), vi, vb, .one (.ptr 2 1), vi, .one (.ptr 3 1), vi, vb, .one (.ptr 2 2), vs, .one (.ptr 3 2), vs, vb, .one (.ptr 2 3), vl, .one (.ptr 3 3), vl, vb, vb], obs := [(2, tl3), (3, tl3)], tk := [6, 8, 11, 13, 16, 18, 21, 23], keep := [(0, [2, 3]), (1, [2, 3, 9]), (2, [4]), (3, [2, 3, 14]), (4, [4]), (5, [2, 3, 19]), (6, [4]), (7, [25]), (8, [4]), (9, [4])] }
def F194 : FA := { n := 36, sh := [vs, vj, vb, vi, vi, vb, vi, vs, vi, vb, vi, vi, vs, vi, vy, vi, vi, vb, vb, vb, vb, vi, vb, vb, vi, vb, vb, vb, vi, vb, vb, vb, vb, vs, vi, vb], obs := [], tk := [10, 18, 20, 23, 27, 28, 33], keep := [(0, [0]), (1, [0, 3]), (2, [0, 3, 9]), (3, [0, 3]), (4, [0, 3, 4]), (5, [0, 3, 4, 5]), (6, [0, 3, 32]), (7, [2]), (8, [2])] }
def F195 : FA := { n := 25, sh := [.one (.ag [.sl [], .sl []]), .one (.ptr 1 0), vb, vi, .one (.ptr 1 0), vl, vi, vb, vb, .one (.ptr 1 1), vl, vi, vb, vb, vi, .one (.ptr 1 0), vl, vi, vb, vi, vi, .one (.ag [.sl [], .sl []]), vi, vb, vb], obs := [(1, [.sl [], .sl []])], tk := [8, 19], keep := [(0, [1]), (1, [1, 13]), (2, [2]), (3, [1, 3]), (4, [1, 3, 18]), (5, [1, 3]), (6, [1, 3, 24]), (7, [2]), (8, [2])] }
def F196 : FA := { n := 35, sh := [vs, vj, vb, vi, vi, vs, vi, vb, vi, vi, vs, vi, vy, vb, vb, vb, vi, vb, vb, vs, vi, vy, vb, vb, vb, vs, vi, vy, vb, vb, vb, vb, vs, vi, vb], obs := [], tk := [8, 15, 18, 24, 32], keep := [(0, [0]), (1, [0, 3]), (2, [0, 3, 7]), (3, [0, 3]), (4, [0, 3, 31]), (5, [2]), (6, [2])] }
def F206 : FA := { n := 11, sh := [.one (.ptr 1000000 0), vs, vj, .one (.ptr 3 0), vi, .one (.ptr 1000000 0), .one (.ptr 1000000 0), .one (.ptr 1000000 0), vl, .one (.fn 243 [(3, 0)]), vi], obs := [(3, [.str []]), (1000000, [.sl [], .sl []])], tk := [5], keep := [(0, [0, 3]), (1, [4])] }
def F207 : FA := { n := 65, sh := [.one (.ptr 1000000 0), .one (.cp tl0), vj, vj, vb, vj, .one (.ptr 6 0), vl, vb, .one (.cp tl0), .one (.cp tl0), .one (.cp tl0), vs, vb, vb, vb, .one (.cp tl0), .one (.cp tl0), .one (.cp tl5), vi, vb, vb, vb, vb, .one (.cp tl0), .one (.cp tl0), .one (.cp tl7), vi, .one (.cp tl0), .one (.cp tl0), .one (.cp tl5), vi, vb, vb, vb, vb, .one (.cp tl0), .one (.cp tl0), .one (.cp [.sl []]), vl, vi, vb, vb, vb, .one (.cp tl0), .one (.cp tl0), .one (.cp [.sl []]), vl, vi, vi, vb, .one (.cp tl2), .one (.ag tl2), .one (.ptr 1000000 0), .one (.cp tl0), .one (.ag tl2), vb, vb, vi, .tup [.c (.sl []), .c (.bool false)], .one (.cp tl0), .tup [.c (.sl []), .c (.bool false)], vl, vb, vb], obs := [(6, tl2), (1000000, [.sl [], .sl []])], tk := [15, 23, 35, 49, 55, 59, 60, 64], keep := [(0, [0, 1]), (1, [0, 1, 43]), (2, [4]), (3, [0, 1, 47, 48, 49]), (4, [0, 1, 47, 48, 49, 50]), (5, [0, 1, 6, 47, 48, 49]), (6, [0, 1, 47, 48, 49, 57]), (7, [4]), (8, [0, 1, 47, 48, 49]), (9, [8]), (10, [4])] }
def F208 : FA := { n := 14, sh := [.one (.ag tl3), vi, .one (.ptr 2 0), vj, vb, .one (.ptr 5 0), vi, .one (.ag tl5), vi, vb, vb, .one (.ag tl3), vb, vb], obs := [(2, tl3), (5, tl5)], tk := [8, 10, 11], keep := [(0, [1, 2]), (1, [1, 2, 5]), (2, [4])] }
def F215 : FA := { n := 27, sh := [vl, vi, vj, vj, vi, vi, vi, vl, vi, vi, vi, vb, vi, vl, vi, vb, vi, vi, vl, vi, .one (.cp tl0), .one (.ag tl0), vi, vi, vi, vb, vi], obs := [], tk := [6, 16, 22, 26], keep := [(0, [0, 1]), (1, [0, 1]), (2, [0, 1, 11]), (3, [4]), (4, [0, 1, 5]), (5, [0, 1, 5, 15]), (6, [0, 1, 5]), (7, [0, 1, 5]), (8, [0, 1, 5, 25]), (9, [4]), (10, [4])] }
def F216 : FA := { n := 27, sh := [vl, vi, vj, vj, vi, vi, vi, vl, vi, vi, vi, vb, vi, vl, vi, vb, vi, vi, vl, vi, .one (.cp tl3), .one (.ag tl3), vi, vi, vi, vb, vi], obs := [], tk := [6, 16, 22, 26], keep := [(0, [0, 1]), (1, [0, 1]), (2, [0, 1, 11]), (3, [4]), (4, [0, 1, 5]), (5, [0, 1, 5, 15]), (6, [0, 1, 5]), (7, [0, 1, 5]), (8, [0, 1, 5, 25]), (9, [4]), (10, [4])] }
def F217 : FA := { n := 23, sh := [vl, vj, vl, vl, vi, vl, vi, vl, vi, vl, vi, vb, vi, vi, .one (.al (.s 3 0 0) []), vi, vl, vi, .one (.cp tl0), .one (.ag tl0), .one (.ag tl0), .one (.pp (.s 3 0 0) [] 0 0), vl], obs := [], al := [14], tk := [12, 22], keep := [(0, [0]), (1, [0, 3]), (2, [0, 3, 4]), (3, [0, 3, 4, 11]), (4, [0, 3, 4]), (5, [0, 3, 4]), (6, [2])] }
def F218 : FA := { n := 23, sh := [vl, vj, vl, vl, vi, vl, vi, vl, vi, vl, vi, vb, vi, vi, .one (.al (.s 3 0 0) []), vi, vl, vi, .one (.cp tl3), .one (.ag tl3), .one (.ag tl3), .one (.pp (.s 3 0 0) [] 0 0), vl], obs := [], al := [14], tk := [12, 22], keep := [(0, [0]), (1, [0, 3]), (2, [0, 3, 4]), (3, [0, 3, 4, 11]), (4, [0, 3, 4]), (5, [0, 3, 4]), (6, [2])] }
def F221 : FA := { n := 27, sh := [vl, vl, vj, vj, vb, vi, vl, vi, vl, vi, vb, vi, vl, vi, vb, vi, vi, vl, vi, .one (.cp tl2), .one (.ag tl2), vl, vi, .one (.cp tl2), .one (.ag tl2), vb, vb], obs := [], tk := [15], keep := [(0, [0, 1]), (1, [0, 1, 10]), (2, [4]), (3, [0, 1, 5]), (4, [0, 1, 5, 14]), (5, [0, 1, 5]), (6, [0, 1, 5, 26]), (7, [4]), (8, [4])] }
def F224 : FA := { n := 10, sh := [vs, vj, vb, vs, vb, vb, vs, vb, vb, vb], obs := [], tk := [5, 6], keep := [(0, [0]), (1, [2])] }
def F227 : FA := { n := 23, sh := [vs, vj, vb, vi, vi, vs, vi, vb, vi, vi, vs, vi, vy, vb, vb, vs, vi, vb, vb, vs, vy, vb, vb], obs := [], tk := [8, 18, 19], keep := [(0, [0]), (1, [0, 3]), (2, [0, 3, 7]), (3, [0, 3]), (4, [0, 3, 14]), (5, [2]), (6, [2])] }
def F228 : FA := { n := 17, sh := [vs, vj, vb, vs, vb, vb, vs, vb, vb, vb, vs, vb, vb, vb, vs, vb, vb], obs := [], tk := [5, 9, 13, 14], keep := [(0, [0]), (1, [2])] }
def F234 : FA := { n := 107, sh := [vi, vi, vs, vi, vj, vj, vj, vj, vb, vi, vb, vb, vi, vb, vb, vs, vb, vb, vb, vi, vb, vb, vb, vb, vi, vb, vb, vs, vb, vb, vb, vi, vb, vb, vb, vb, vi, vb, vb, vs, vb, vb, vb, vi, vb, vb, vb, vb, vb, vi, vb, vb, vs, vb, vb, vb, vi, vb, vb, vb, vb, vi, vb, vb, vs, vb, vb, vb, vi, vb, vb, vb, vb, vi, vb, vb, vs, vb, vb, vb, vi, vb, vb, vb, vb, vi, vb, vb, vs, vb, vb, vb, vi, vb, vb, vb, vb, vi, vb, vb, vs, vb, vb, vb, vi, vb, vb], obs := [], tk := [9, 12, 14, 15, 18, 19, 24, 26, 27, 30, 31, 36, 38, 39, 42, 43, 49, 51, 52, 55, 56, 61, 63, 64, 67, 68, 73, 75, 76, 79, 80, 85, 87, 88, 91, 92, 97, 99, 100, 103, 104], keep := [(0, [0, 1, 2, 3]), (1, [1, 2, 3, 9]), (2, [1, 2, 3, 9, 10]), (3, [8]), (4, [1, 2, 3, 9, 22]), (5, [8]), (6, [1, 2, 3, 9, 34]), (7, [8]), (8, [1, 2, 3, 9, 46]), (9, [1, 2, 3, 9, 46]), (10, [8]), (11, [1, 2, 3, 9, 59]), (12, [8]), (13, [1, 2, 3, 9, 71]), (14, [8]), (15, [1, 2, 3, 9, 83]), (16, [8]), (17, [1, 2, 3, 95]), (18, [8]), (19, [8])] }
def F235 : FA := { n := 83, sh := [.one (.ag [.sl [], .sl []]), vi, .one (.ptr 2 0), vj, vb, .one (.ptr 5 0), vi, vl, vb, vi, .one (.ptr 2 0), vl, vi, .one (.cp tl0), .one (.ag tl0), .one (.ptr 5 0), vs, vb, vb, vb, .one (.ag [.sl [], .sl []]), .one (.ptr 5 0), vs, vi, vi, vb, vb, vb, .one (.ptr 5 1), vi, vb, vb, vb, vb, .one (.ptr 5 2), vi, .one (.ptr 5 1), vi, vb, vb, vb, vb, .one (.ptr 5 3), vl, vi, vb, vb, vb, vi, .one (.ptr 5 3), vl, vi, vb, vi, vi, .one (.ag [.sl [], .sl []]), .one (.ag tl0), vi, vb, vb, .tup [.c (.sl []), .c (.bool false)], .one (.ag tl0), .tup [.c (.sl []), .c (.bool false)], vl, vb, .one (.ptr 5 3), vl, .one (.ptr 5 3), vl, vi, vi, .one (.cp tl2), .one (.cp tl2), vi, vb, vb, vi, vb, vb, vi, vb, vb, vb], obs := [(2, [.sl [], .sl []]), (5, tl0)], tk := [19, 24, 27, 33, 41, 53, 60, 68, 74, 75, 78, 79], keep := [(0, [1, 2]), (1, [1, 2, 5]), (2, [2, 5, 47]), (3, [4]), (4, [2, 5, 6]), (5, [2, 5, 6, 52]), (6, [2, 5, 6]), (7, [2, 5, 6, 59]), (8, [4]), (9, [5, 8]), (10, [8, 9]), (11, [4])] }
def F236 : FA := { n := 9, sh := [vy, vj, vb, vy, vb, vb, vy, vb, vb], obs := [], tk := [5, 6], keep := [(0, [0]), (1, [2])] }
def F237 : FA := { n := 9, sh := [vy, vj, vb, vy, vb, vb, vy, vb, vb], obs := [], tk := [5, 6], keep := [(0, [0]), (1, [2])] }
def F242 : FA := { n := 19, sh := [vl, .one (.fn 243 [(1000000, 0)]), vj, vj, vi, vi, vl, vi, vi, vb, vi, .one (.fn 243 [(1000000, 0)]), vl, vi, .one (.cp tl0), .one (.ag tl0), vb, vi, vi], obs := [(1000000, [.str []])], tk := [8, 17], keep := [(0, [0, 1]), (1, [0, 1, 7, 8]), (2, [0, 1, 7, 8, 9]), (3, [0, 1, 5, 7, 8]), (4, [0, 1, 5, 7, 8, 16]), (5, [4]), (6, [0, 1, 7, 8]), (7, [4])] }
def F243 : FA := { n := 8, sh := [.one (.ag tl0), .one (.ptr 1000000 0), .one (.ptr 2 0), vb, .one (.ptr 2 0), vs, vs, vb], obs := [(2, tl0), (1000000, [.str []])], tk := [5], keep := [(0, [1, 2]), (1, [3])] }
def F244 : FA := { n := 179, sh := [.one (.ptr 1000000 0), .one (.cp tl0), .one (.ag tl2), vj, vj, .one (.ptr 5 0), vb, vb, vb, vi, .one (.ptr 5 2), vs, vb, vb, .one (.ptr 5 3), vi, vb, vb, .one (.ptr 5 3), vi, .one (.cp tl0), .one (.cp tl0), .one (.cp [.sl []]), vl, vi, vi, vb, .one (.ptr 5 0), vi, vb, vb, vb, vb, .one (.ptr 5 1), vi, vb, vb, vb, vb, .one (.ptr 5 1), vi, vb, vb, .one (.ptr 5 2), vs, vb, vb, vb, .one (.ptr 5 3), vi, vb, vb, vb, vb, vb, vb, .one (.ptr 5 1), vi, .one (.cp tl0), .one (.cp tl0), .one (.cp tl7), vi, vi, vb, vb, vb, vb, vb, vb, vb, .one (.ptr 5 1), vi, vb, vb, vb, vb, vb, vb, .one (.ptr 5 1), vi, vb, vb, vb, vb, .one (.ptr 5 1), vi, vb, vb, .one (.ptr 5 2), vs, vb, vb, vb, .one (.ptr 5 3), vi, vb, vb, vb, vb, .one (.ptr 1000000 0), .one (.ptr 5 2), vs, vi, vi, vb, vb, .one (.ptr 1000000 0), .one (.ptr 1000000 0), .one (.ptr 1000000 0), vl, vi, .one (.cp tl0), .one (.cp tl5), vi, .one (.ptr 5 1), vi, vb, vb, vb, .one (.ptr 5 3), vi, vb, vb, vb, vb, .one (.ptr 5 2), vs, vb, vb, vb, vb, vb, .one (.ptr 5 1), vi, .one (.ptr 1000000 0), .one (.ptr 1000000 0), .one (.ptr 1000000 1), vl, vi, vi, vb, vb, vb, .one (.ptr 1000000 0), .one (.ptr 1000000 0), .one (.ptr 1000000 1), vl, .one (.ptr 5 1), vi, .one (.cp tl3), .one (.ag tl3), .one (.cp tl0), .one (.cp tl0), .one (.cp tl7), vi, vb, vb, vb, vb, .one (.ptr 5 2), vs, vb, vb, .one (.ptr 5 1), vi, vb, vb, vb, vb, vb, vb, vb, vb, vb, vb, .one (.ptr 5 1), vi, vb, vb], obs := [(5, tl2), (1000000, [.sl [], .sl []])], tk := [13, 28, 31, 32, 34, 40, 42, 44, 47, 49, 54, 55, 57, 58, 68, 69, 71, 76, 77, 79, 85, 87, 89, 92, 94, 101, 105, 106, 110, 115, 118, 120, 126, 128, 129, 131, 142, 143, 148, 151, 160, 162, 164, 167, 168, 173, 174, 176], keep := [(0, [0, 1, 5]), (1, [0, 1, 5, 7]), (2, [0, 1, 5, 7, 8]), (3, [0, 1, 5, 7, 8, 28]), (4, [0, 1, 5, 7, 8, 28, 29]), (5, [6]), (6, [0, 1, 5, 7, 8, 28, 37]), (7, [6]), (8, [0, 1, 5, 7, 8, 28, 52]), (9, [6]), (10, [0, 1, 5, 7, 8, 28, 65]), (11, [0, 1, 5, 7, 8, 28, 65]), (12, [6]), (13, [0, 1, 5, 7, 8, 28, 74]), (14, [6]), (15, [0, 1, 5, 7, 8, 28, 82]), (16, [6]), (17, [0, 1, 5, 7, 8, 28, 97]), (18, [0, 5, 9]), (19, [6]), (20, [0, 1, 5, 7, 8, 28, 123]), (21, [6]), (22, [5, 7, 8, 28, 157]), (23, [6]), (24, [5, 7, 28, 170]), (25, [5, 7, 170]), (26, [6]), (27, [6])] }
def F245 : FA := { n := 56, sh := [.one (.cp tl0), vj, vl, vb, .one (.ptr 4 0), vi, vi, .one (.ptr 7 0), .one (.cp tl0), .one (.cp tl0), .one (.cp [.sl []]), vl, vi, vl, .one (.ag tl6), .one (.ptr 4 0), vl, vi, vi, vb, vi, .one (.ptr 4 0), .one (.al (.oc 4 0) []), vi, .one (.pp (.oc 4 0) [] 0 0), vi, .tup [], .one (.cp tl0), .one (.cp tl0), .one (.cp [.sl []]), vl, vi, vi, vb, vi, .one (.cp tl2), .one (.ag tl2), .one (.ptr 4 1), vb, vb, .one (.ptr 4 0), vl, vi, .one (.cp [.int .i64 0]), vi, vb, vb, vi, .one (.ag tl2), .tup [], vi, .one (.ptr 4 0), vl, .one (.ptr 4 1), vb, vb], obs := [(4, tl6), (7, tl2)], al := [22], tk := [18, 23, 27, 32, 39, 47, 48, 52, 54], keep := [(0, [0]), (1, [0, 4]), (2, [0, 4, 17, 18]), (3, [0, 4, 17, 18, 19]), (4, [0, 4, 5, 17, 18]), (5, [0, 4, 17, 18]), (6, [0, 4, 17, 18]), (7, [0, 4]), (8, [4, 30, 31, 32]), (9, [4, 30, 31, 32, 33]), (10, [4, 6, 7, 30, 31, 32]), (11, [4, 6, 7, 30, 31, 32, 46]), (12, [2, 3]), (13, [4, 30, 31, 32]), (14, [4, 30, 31, 32]), (15, [2, 3])] }
def F246 : FA := { n := 103, sh := [.one (.ptr 1000000 0), .one (.ag tl3), vi, vj, .one (.ptr 4 0), vj, vb, vj, .one (.ptr 8 0), .one (.ptr 1000000 0), .one (.ptr 1000000 0), .one (.ptr 1000000 1), vi, vi, .one (.ptr 1000000 0), .one (.ptr 1000000 1), vi, vb, vb, .one (.ptr 1000000 0), .one (.ptr 1000000 0), .one (.ptr 1000000 1), vi, vb, vb, .one (.ptr 4 0), vi, vb, .one (.ptr 4 1), vi, .one (.ptr 1000000 0), .one (.ptr 1000000 0), .one (.ptr 1000000 0), vi, vi, vb, vb, vb, .one (.ptr 4 2), vs, vb, vb, vb, .one (.ptr 4 3), vl, vi, vb, vb, vb, .one (.ptr 4 1), vi, vb, vb, .one (.ptr 1000000 0), .one (.ptr 1000000 0), .one (.ptr 1000000 2), vl, .one (.ptr 4 1), vi, vb, vb, vb, .one (.ptr 1000000 0), .one (.ptr 1000000 0), .one (.ptr 1000000 0), .one (.ptr 1000000 2), vl, .one (.ptr 4 1), vi, vl, vl, .one (.ptr 1000000 0), .one (.ptr 1000000 2), .one (.ptr 4 0), vi, vb, vb, .one (.ptr 4 0), vi, .one (.ptr 4 1), vi, .one (.ptr 4 2), vs, .one (.ptr 4 3), vl, vi, vb, vb, vb, .one (.ptr 4 3), vl, vi, vi, vb, .one (.cp tl3), .one (.ag tl3), .one (.ptr 1000000 0), .one (.ag tl3), vi, vi, vb, vb, vi], obs := [(4, tl3), (8, tl3), (1000000, tl5)], tk := [12, 18, 37, 39, 42, 44, 48, 52, 63, 66, 68, 76, 78, 80, 82, 90, 92, 97], dp := [69], keep := [(0, [0, 2, 4]), (1, [0, 2, 4]), (2, [0, 2, 4, 24]), (3, [6]), (4, [0, 2, 4, 27]), (5, [0, 4, 61]), (6, [6]), (7, []), (8, [6]), (9, [0, 2, 4, 88]), (10, [6]), (11, [0, 2, 90, 91, 92]), (12, [0, 2, 90, 91, 92, 93]), (13, [0, 2, 8, 90, 91, 92]), (14, [0, 2, 90, 91, 92, 101]), (15, [6]), (16, [0, 2, 90, 91, 92]), (17, [6])] }
def F248 : FA := { n := 19, sh := [.one (.ag tl0), vi, .one (.ptr 2 0), vj, vi, vi, .one (.ptr 2 0), vs, vi, vi, vi, vb, .one (.ptr 2 3), vl, vi, vi, vi, vb, vi], obs := [(2, tl0)], tk := [5, 7, 13, 14, 18], keep := [(0, [1, 2]), (1, [1, 2]), (2, [1, 2, 11]), (3, [4]), (4, [1]), (5, [1, 17]), (6, [4]), (7, [4])] }
def F249 : FA := { n := 19, sh := [.one (.ag tl3), vi, .one (.ptr 2 0), vj, vi, vi, .one (.ptr 2 2), vs, vi, vi, vi, vb, .one (.ptr 2 3), vl, vi, vi, vi, vb, vi], obs := [(2, tl3)], tk := [5, 7, 13, 14, 18], keep := [(0, [1, 2]), (1, [1, 2]), (2, [1, 2, 11]), (3, [4]), (4, [1]), (5, [1, 17]), (6, [4]), (7, [4])] }
def F250 : FA := { n := 18, sh := [.one (.ag tl0), .one (.ptr 1 0), .one (.ptr 2 0), .one (.ptr 3 0), .one (.ptr 1 0), vs, .one (.ptr 3 0), .one (.ptr 1 1), vi, .one (.ptr 3 1), .one (.ptr 1 2), vi, .one (.ptr 3 2), .one (.ptr 1 3), vl, vl, .one (.ptr 3 3), .one (.ag tl0)], obs := [(1, tl0), (2, tl0), (3, tl0)], tk := [5, 8, 11, 14, 17], keep := [(0, [1, 2]), (1, [1, 2, 3]), (2, [1, 2, 3]), (3, [1, 2, 3]), (4, [1, 2, 3]), (5, [2, 3]), (6, [2])] }
def F251 : FA := { n := 18, sh := [.one (.ag tl3), .one (.ptr 1 0), .one (.ptr 2 0), .one (.ptr 3 0), .one (.ptr 1 0), vi, .one (.ptr 3 0), .one (.ptr 1 1), vi, .one (.ptr 3 1), .one (.ptr 1 2), vs, .one (.ptr 3 2), .one (.ptr 1 3), vl, vl, .one (.ptr 3 3), .one (.ag tl3)], obs := [(1, tl3), (2, tl3), (3, tl3)], tk := [5, 8, 11, 14, 17], keep := [(0, [1, 2]), (1, [1, 2, 3]), (2, [1, 2, 3]), (3, [1, 2, 3]), (4, [1, 2, 3]), (5, [2, 3]), (6, [2])] }
def F252 : FA := { n := 25, sh := [.one (.ag tl2), .one (.ag tl2), .one (.ptr 2 0), .one (.ptr 3 0), vb, .one (.ptr 2 0), vi, .one (.ptr 3 0), vi, vb, .one (.ptr 2 1), vi, .one (.ptr 3 1), vi, vb, .one (.ptr 2 2), vs, .one (.ptr 3 2), vs, vb, .one (.ptr 2 3), vi, .one (.ptr 3 3), vi, vb], obs := [(2, tl2), (3, tl2)], tk := [6, 8, 11, 13, 16, 18, 21, 23], keep := [(0, [2, 3]), (1, [2, 3, 9]), (2, [4]), (3, [2, 3, 14]), (4, [4]), (5, [2, 3, 19]), (6, [4]), (7, [24]), (8, [4]), (9, [4])] }
def F256 : FA := { n := 13, sh := [vs, vj, vb, vs, vb, vb, vs, vb, vb, vb, vs, vb, vb], obs := [], tk := [5, 9, 10], keep := [(0, [0]), (1, [2])] }
def F257 : FA := { n := 13, sh := [vy, vj, vb, vy, vb, vb, vy, vb, vb, vb, vy, vb, vb], obs := [], tk := [5, 9, 10], keep := [(0, [0]), (1, [2])] }
def F258 : FA := { n := 13, sh := [vy, vj, vb, vy, vb, vb, vy, vb, vb, vb, vy, vb, vb], obs := [], tk := [5, 9, 10], keep := [(0, [0]), (1, [2])] }
def F260 : FA := { n := 21, sh := [vs, vj, vb, vs, vb, vb, vs, vb, vb, vb, vs, vb, vb, vb, vs, vb, vb, vb, vs, vb, vb], obs := [], tk := [5, 9, 13, 17, 18], keep := [(0, [0]), (1, [2])] }
def F261 : FA := { n := 10, sh := [vs, vj, vb, vs, vb, vb, vb, vb, vb, vb], obs := [], tk := [3], keep := [(0, [0]), (1, [3]), (2, [3, 4]), (3, [3, 4]), (4, [3, 4]), (5, [3, 4]), (6, [4]), (7, [2]), (8, [2])] }
def F262 : FA := { n := 22, sh := [.one (.ag [.sl [], .sl []]), vs, .one (.ptr 2 0), vj, vi, vi, vi, .one (.ptr 2 0), vl, vi, vb, vi, vi, .one (.ptr 2 0), vl, vi, .one (.cp tl0), .one (.cp tl0), vs, vs, vb, vi], obs := [(2, [.sl [], .sl []])], tk := [11, 21], keep := [(0, [1, 2]), (1, [1, 2, 5]), (2, [1, 2, 5, 10]), (3, [1, 2, 5]), (4, [1, 2, 5, 20]), (5, [4]), (6, [4])] }
def F263 : FA := { n := 172, sh := [.one (.ag [.sl [], .sl []]), .one (.ag tl0), vi, .one (.ptr 3 0), .one (.ptr 4 0), vj, vb, .one (.ptr 7 0), vb, vb, vi, .one (.ptr 4 3), vl, vi, .one (.cp tl2), .one (.ag tl2), .one (.ptr 7 2), vs, vb, vb, .one (.ptr 7 3), vi, vb, vb, .one (.ptr 7 2), vs, vb, vb, .one (.ptr 7 3), vi, vi, vi, .one (.ptr 4 3), vl, vi, vi, vb, vb, .one (.ptr 7 0), vi, vb, vb, vb, vb, .one (.ptr 7 1), vi, vb, vb, vb, vb, .one (.ptr 7 2), vs, vb, vb, .one (.ptr 7 1), vi, vb, vb, vb, .one (.ptr 7 3), vi, vb, vb, vb, vb, vb, vb, .one (.ptr 7 1), vi, .one (.ptr 4 2), vi, vi, vb, vb, vb, vb, vb, vb, vb, .one (.ptr 7 1), vi, vb, vb, vb, vb, vb, vb, .one (.ptr 7 1), vi, vb, vb, vb, vb, .one (.ptr 7 2), vs, vb, vb, .one (.ptr 7 1), vi, vb, vb, vb, .one (.ptr 7 3), vi, vb, vb, vb, vb, .one (.ag [.sl [], .sl []]), .one (.ptr 7 2), vs, vi, vi, vb, vb, .one (.ptr 3 0), vl, vi, .one (.cp tl0), .one (.cp tl5), vi, .one (.ptr 7 1), vi, vb, vb, vb, .one (.ptr 7 3), vi, vb, vb, vb, vb, vb, vb, .one (.ptr 7 1), vi, .one (.ptr 3 1), vl, vi, vi, vb, vb, vb, .one (.ptr 3 1), vl, .one (.ptr 7 1), vi, .one (.cp tl3), .one (.ag tl3), .one (.ptr 4 2), vi, vb, vb, vb, vb, vb, vb, .one (.ptr 7 1), vi, vb, vb, vb, vb, .one (.ptr 7 1), vi, vb, vb, vb, .one (.ptr 7 0), vi, vb, vb], obs := [(3, [.sl [], .sl []]), (4, tl0), (7, tl2)], tk := [19, 27, 30, 33, 42, 43, 45, 51, 53, 55, 58, 60, 65, 66, 68, 70, 77, 78, 80, 85, 86, 88, 94, 96, 98, 101, 103, 110, 114, 116, 117, 122, 125, 127, 132, 133, 142, 144, 146, 150, 155, 156, 158, 161, 162, 164, 167, 169], keep := [(0, [2, 3, 4]), (1, [2, 3, 4, 7]), (2, [2, 3, 4, 7, 8]), (3, [3, 4, 7, 8, 9]), (4, [3, 4, 7, 8, 9, 39]), (5, [3, 4, 7, 8, 9, 39, 40]), (6, [6]), (7, [3, 4, 7, 8, 9, 39, 48]), (8, [6]), (9, [3, 4, 7, 8, 9, 39, 63]), (10, [6]), (11, [3, 4, 7, 8, 9, 39, 74]), (12, [3, 4, 7, 8, 9, 39, 74]), (13, [6]), (14, [3, 4, 7, 8, 9, 39, 83]), (15, [6]), (16, [3, 4, 7, 8, 9, 39, 91]), (17, [6]), (18, [3, 4, 7, 8, 9, 39, 106]), (19, [3, 7, 10]), (20, [6]), (21, [3, 4, 7, 8, 9, 39, 130]), (22, [6]), (23, [7, 8, 9, 153]), (24, [6]), (25, [6])] }
def F264 : FA := { n := 116, sh := [.one (.ag tl0), .one (.ptr 1 0), vl, vb, vl, vi, vi, .one (.ptr 7 0), vi, vi, vi, vb, .one (.ptr 1 3), vl, vi, vl, vi, vl, vi, vb, vi, vi, .one (.al (.s 4 0 0) []), vi, .one (.pp (.s 4 0 0) [] 0 0), vi, vl, vi, vb, vi, vi, .one (.ptr 1 3), vl, vi, .one (.cp tl2), .one (.ag tl2), .tup [.c (.int .i64 0), .c (.int .i64 0)], .one (.ag tl2), .tup [.c (.int .i64 0), .c (.int .i64 0)], vi, vi, vl, vi, .one (.cp [.int .i64 0]), vi, vi, vi, vb, vb, vi, vb, vb, vb, .one (.ptr 7 0), vi, vb, vb, vi, vb, vb, vb, vl, .one (.ptr 7 0), vi, vi, vi, vl, vi, vb, vb, .one (.al (.s 4 0 0) []), vi, vi, vi, vi, vi, vi, vi, vb, vb, vb, vb, vb, vb, vb, .one (.al (.s 4 0 0) []), .one (.ptr 7 3), vi, vi, vb, vb, vb, .one (.al (.s 4 0 0) []), .one (.ptr 7 3), vi, vi, vb, vb, vi, vi, vl, vi, vb, vb, vb, .one (.al (.s 4 0 0) []), vi, vi, vi, vi, vb, vb, vb, vb, vl, vl], obs := [(1, tl0), (7, tl2)], al := [22, 70, 85, 92, 105], tk := [20, 29, 36, 48, 52, 56, 61, 63, 69, 73, 74, 76, 87, 88, 94, 97, 104, 108, 112, 114, 115], keep := [(0, [1]), (1, [1, 4]), (2, [1, 4, 5]), (3, [1, 4, 5, 19]), (4, [1, 4, 5]), (5, [1, 4, 5]), (6, [1, 4, 6]), (7, [1, 4, 6, 28]), (8, [1, 4, 6]), (9, [1, 4, 6, 7]), (10, [1, 4, 6, 7, 8, 9]), (11, [1, 4, 6, 7, 8, 9, 10]), (12, [1, 4, 6, 7, 8, 9, 10, 60]), (13, [2, 3]), (14, [1, 4, 6, 7, 8, 9, 10, 11]), (15, [1, 4, 6, 7, 8, 9, 10, 11, 63]), (16, [1, 4, 6, 11]), (17, [1, 4, 6, 7, 8, 9, 10, 11, 63, 80]), (18, [1, 4, 6, 7, 8, 9, 10, 11, 63, 80]), (19, [1, 4, 6, 7, 8, 9, 10, 63, 83]), (20, [1, 4, 6, 11]), (21, [1, 4, 6, 7, 8, 9, 10, 90]), (22, [1, 4, 6, 11]), (23, [1, 4, 6, 113]), (24, [2, 3]), (25, [2, 3])], ioa := [70, 85, 92, 105] }
def F269 : FA := { n := 50, sh := [.one (.ptr 1000000 0), vi, vi, vj, vj, vj, vb, vi, .one (.ptr 1000000 0), .one (.ptr 1000000 0), .one (.ptr 1000000 0), vl, vi, vb, vb, vi, vb, vb, .one (.ptr 1000000 0), .one (.ptr 1000000 0), .one (.ptr 1000000 1), vb, .one (.ptr 1000000 0), .one (.ptr 1000000 0), .one (.ptr 1000000 0), vl, vi, .one (.cp [.int .i64 0]), vi, vb, .one (.ptr 1000000 0), .one (.ptr 1000000 0), .one (.ptr 1000000 0), .one (.al (.oc 1000000 0) []), vi, vi, .one (.pp (.oc 1000000 0) [] 0 0), vb, .one (.ptr 1000000 0), .one (.ptr 1000000 0), .one (.ptr 1000000 0), vl, vi, .one (.cp [.int .i64 0]), vi, vi, vb, .one (.ptr 1000000 0), .one (.ptr 1000000 0), .one (.ptr 1000000 1)], obs := [(1000000, tl6)], al := [33], tk := [14, 18, 30, 34, 35, 42, 45, 47], keep := [(0, [0, 1, 2, 6]), (1, []), (2, [0, 1, 2, 21]), (3, []), (4, [0, 37]), (5, [])] }
def F270 : FA := { n := 83, sh := [.one (.ptr 1000000 0), vi, .one (.ag tl2), vj, vj, .one (.ptr 5 0), vi, .one (.ptr 1000000 0), .one (.ptr 1000000 0), .one (.ptr 1000000 0), vl, vi, .one (.cp [.int .i64 0]), vi, vi, .one (.ag tl2), vi, vb, vb, .one (.ptr 5 0), vi, vb, vb, .one (.ptr 5 0), vi, vb, vb, vb, .one (.ptr 5 3), vi, vi, vb, vb, vb, .one (.ptr 1000000 0), .one (.ptr 1000000 0), .one (.ptr 1000000 1), .one (.ptr 5 0), vi, .one (.ptr 1000000 0), vi, vi, vi, .one (.ag tl2), vi, vi, vi, .tup [], vb, vb, .one (.ptr 1000000 0), vi, vi, vi, vi, .tup [], .one (.ptr 1000000 0), .one (.ptr 5 3), vi, vi, .tup [], vb, vb, .one (.ptr 1000000 0), .one (.ptr 5 3), vi, vi, .tup [], vb, vb, vb, vb, .one (.ptr 1000000 0), .one (.ptr 1000000 0), .one (.ptr 1000000 0), .one (.ptr 1000000 1), vb, vb, vi, vb, vb, .one (.ptr 1000000 0), .one (.ptr 1000000 1)], obs := [(5, tl2), (1000000, tl6)], tk := [18, 22, 27, 34, 39, 40, 42, 43, 51, 56, 58, 59, 63, 65, 66, 73, 76, 77, 78], keep := [(0, [0, 1, 5]), (1, [0, 1, 5, 6]), (2, [0, 1, 5, 6, 33]), (3, []), (4, [0, 1, 5, 6, 38]), (5, []), (6, [0, 1, 5, 6, 38, 48]), (7, [0, 5, 6]), (8, []), (9, [0, 1, 5, 6, 38, 61]), (10, []), (11, [0, 1, 5, 6, 38, 68]), (12, [0, 1, 5, 6, 70]), (13, [])] }
def F271 : FA := { n := 9, sh := [vl, vi, vj, vj, vb, vl, vi, vi, vb], obs := [], tk := [5, 6], keep := [(0, [0, 1]), (1, [4])] }
def F272 : FA := { n := 27, sh := [vl, vi, vj, vj, vi, vi, vi, vl, vi, vi, vi, vb, vi, vl, vi, vb, vi, vi, vl, vi, .one (.cp tl2), .one (.ag tl2), vi, vi, vi, vb, vi], obs := [], tk := [6, 16, 22, 26], keep := [(0, [0, 1]), (1, [0, 1]), (2, [0, 1, 11]), (3, [4]), (4, [0, 1, 5]), (5, [0, 1, 5, 15]), (6, [0, 1, 5]), (7, [0, 1, 5]), (8, [0, 1, 5, 25]), (9, [4]), (10, [4])] }
def F273 : FA := { n := 23, sh := [vl, vj, vl, vl, vi, vl, vi, vl, vi, vl, vi, vb, vi, vi, .one (.al (.s 3 0 0) []), vi, vl, vi, .one (.cp tl2), .one (.ag tl2), .one (.ag tl2), .one (.pp (.s 3 0 0) [] 0 0), vl], obs := [], al := [14], tk := [12, 22], keep := [(0, [0]), (1, [0, 3]), (2, [0, 3, 4]), (3, [0, 3, 4, 11]), (4, [0, 3, 4]), (5, [0, 3, 4]), (6, [2])] }
def F274 : FA := { n := 39, sh := [.one (.ag tl3), vi, .one (.ptr 2 0), vj, vb, vl, vi, vi, vi, vb, vb, vb, .one (.ag tl3), vi, vi, vb, vb, .one (.ag tl3), vl, vi, vl, vi, vb, vi, vi, vi, vi, vb, vi, vi, vl, vi, .one (.cp [.int .i64 0]), vi, vl, vi, .one (.cp [.int .i64 0]), vi, vb], obs := [(2, tl3)], tk := [11, 13, 17, 23, 28], keep := [(0, [1, 2]), (1, [2, 16]), (2, [4]), (3, [5]), (4, [5, 6]), (5, [5, 6, 22]), (6, [5, 6]), (7, [5, 6, 7]), (8, [5, 6, 7, 27]), (9, [5, 6, 7]), (10, [5, 6, 7, 38]), (11, [4]), (12, [4])] }
def F275 : FA := { n := 22, sh := [.one (.ag tl2), .one (.ptr 1 0), vi, vi, .one (.ptr 1 0), vi, vb, vb, vb, vb, vb, vb, vb, vb, vb, .one (.ptr 1 1), vi, vb, vb, vb, vb, vb], obs := [(1, tl2)], tk := [5, 16], keep := [(0, [1]), (1, [1, 5]), (2, [1, 5, 6]), (3, [1, 5, 6]), (4, [1, 5, 6]), (5, [2, 3]), (6, [1, 5, 10]), (7, [1, 5, 10]), (8, [1, 5, 10]), (9, [1, 5, 10]), (10, [2, 3]), (11, [5, 17]), (12, [2, 3]), (13, [5, 19]), (14, [19]), (15, [2, 3]), (16, [2, 3])] }
def F276 : FA := { n := 22, sh := [vl, vi, vi, vj, vj, vj, vb, vl, vi, .one (.cp [.int .i64 0]), vi, vb, .one (.al (.s 0 0 0) []), vi, vi, .one (.pp (.s 0 0 0) [] 0 0), vl, vi, .one (.cp [.int .i64 0]), vi, vi, vb], obs := [], al := [12], tk := [17, 20], keep := [(0, [0, 1, 2]), (1, [0, 1, 2, 11]), (2, [0, 1, 2]), (3, [0, 6])], io := some 0 }
def F279 : FA := { n := 17, sh := [.one (.ag tl2), .one (.ptr 1 0), vi, .one (.ptr 1 0), vi, vb, vb, vb, vb, vb, .one (.ptr 1 1), vi, vb, vb, vb, vb, vb], obs := [(1, tl2)], tk := [4, 11], keep := [(0, [1]), (1, [1, 4]), (2, [1, 4, 5]), (3, [1, 4, 5]), (4, [1, 4, 5]), (5, [1, 4, 5]), (6, [2]), (7, [4, 12]), (8, [2]), (9, [4, 14]), (10, [14]), (11, [2]), (12, [2])] }
def F280 : FA := { n := 19, sh := [vl, vi, vj, vj, vi, vi, vl, vi, vi, vb, vi, vi, vl, vi, .one (.cp [.int .i64 0]), vi, vb, vi, vi], obs := [], tk := [8, 17], keep := [(0, [0, 1]), (1, [0, 1, 7, 8]), (2, [0, 1, 7, 8, 9]), (3, [0, 1, 5, 7, 8]), (4, [0, 1, 5, 7, 8, 16]), (5, [4]), (6, [0, 1, 7, 8]), (7, [4])] }
def F281 : FA := { n := 13, sh := [.one (.ag tl2), vi, .one (.ptr 2 0), vj, vi, vi, .one (.ptr 2 2), vs, vi, vi, vi, vb, vi], obs := [(2, tl2)], tk := [5, 7, 12], keep := [(0, [1, 2]), (1, [1]), (2, [1, 11]), (3, [4]), (4, [4])] }
def F282 : FA := { n := 17, sh := [.one (.ag tl2), .one (.ptr 1 0), .one (.ptr 2 0), .one (.ptr 3 0), .one (.ptr 1 0), vi, .one (.ptr 3 0), .one (.ptr 1 1), vi, .one (.ptr 3 1), .one (.ptr 1 2), vs, .one (.ptr 3 2), .one (.ptr 1 3), vi, .one (.ptr 3 3), .one (.ag tl2)], obs := [(1, tl2), (2, tl2), (3, tl2)], tk := [5, 8, 11, 14, 16], keep := [(0, [1, 2]), (1, [1, 2, 3]), (2, [1, 2, 3]), (3, [1, 2, 3]), (4, [1, 2, 3]), (5, [2, 3]), (6, [2])] }
def F283 : FA := { n := 46, sh := [.one (.ag tl3), vi, vi, vi, .one (.ptr 4 0), vj, vj, vj, vi, vi, vi, vb, vb, vi, vb, vb, vb, .one (.ag tl3), vi, vb, vb, vb, vi, vi, vi, .one (.ptr 4 3), vl, vi, vb, vb, vi, vb, vb, vi, vi, .one (.ptr 4 3), vl, vi, .one (.cp tl3), .one (.ag tl3), vi, vi, vi, vi, vi, vi], obs := [(4, tl3)], tk := [12, 16, 22, 29, 33, 43, 45], keep := [(0, [1, 2, 3, 4]), (1, [1, 2, 3, 4, 21]), (2, [8]), (3, [1, 2, 3, 4]), (4, [1, 2, 3, 4, 9]), (5, [1, 2, 3, 4, 9, 32]), (6, [1, 2, 3, 4, 9]), (7, [1, 2, 3, 4, 9]), (8, [8])] }
def F284 : FA := { n := 35, sh := [.one (.ag tl3), .one (.ptr 1 0), vl, vl, vi, vl, .one (.ptr 1 0), vi, vb, vb, .one (.ptr 1 1), vi, vb, vb, vl, .one (.ptr 1 1), vi, vl, vl, vi, .one (.ptr 1 3), vl, vi, vb, vi, vi, vl, .one (.ptr 1 3), vl, vi, .one (.cp tl3), .one (.ag tl3), vl, vl, vl], obs := [(1, tl3)], tk := [7, 9, 14, 16, 24, 26, 34], dp := [5, 17, 18, 33], keep := [(0, [1]), (1, [1, 3]), (2, [1, 3, 13]), (3, [1, 3]), (4, [1, 3, 4]), (5, [1, 3, 4, 23]), (6, [1, 3, 4]), (7, [1, 3, 4]), (8, [2])] }
def F286 : FA := { n := 84, sh := [.one (.ag tl3), vi, .one (.ptr 2 0), vj, vb, vi, .one (.ptr 2 3), vl, vi, .one (.ptr 2 0), vi, vb, vb, .one (.ptr 2 1), vi, vb, vb, .one (.ptr 2 2), vs, vb, vb, vb, vi, vb, vb, vb, vb, .one (.ptr 2 2), vs, vb, vb, .one (.ptr 2 1), vi, vb, vb, vb, vi, vb, vb, vb, vb, .one (.ptr 2 2), vs, vb, vb, vi, vb, vb, vb, .one (.ptr 2 1), vi, vi, vi, vb, vb, vb, vb, vb, .one (.ptr 2 2), vs, vb, vb, .one (.ptr 2 1), vi, vb, vb, vb, vi, vb, vb, vb, vb, .one (.ptr 2 2), vs, vb, vb, .one (.ptr 2 1), vi, vb, vb, vb, vi, vb, vb], obs := [(2, tl3)], tk := [7, 10, 14, 16, 18, 21, 22, 28, 30, 32, 35, 36, 42, 44, 45, 48, 50, 51, 59, 61, 63, 66, 67, 73, 75, 77, 80, 81], keep := [(0, [1, 2]), (1, [1, 2, 5]), (2, [1, 2, 5, 10]), (3, [1, 2, 5, 10, 11]), (4, [4]), (5, [1, 2, 5, 10, 25]), (6, [4]), (7, [1, 2, 5, 10, 39]), (8, [4]), (9, [2, 5, 10, 55]), (10, [2, 5, 10, 55]), (11, [4]), (12, [2, 5, 70]), (13, [4]), (14, [4])] }
def An : FuncId → FA
  | 9 => F9
  | 17 => F17
  | 19 => F19
  | 21 => F21
  | 22 => F22
  | 56 => F56
  | 57 => F57
  | 69 => F69
  | 75 => F75
  | 79 => F79
  | 82 => F82
  | 85 => F85
  | 86 => F86
  | 87 => F87
  | 126 => F126
  | 127 => F127
  | 144 => F144
  | 159 => F159
  | 162 => F162
  | 166 => F166
  | 167 => F167
  | 194 => F194
  | 195 => F195
  | 196 => F196
  | 206 => F206
  | 207 => F207
  | 208 => F208
  | 215 => F215
  | 216 => F216
  | 217 => F217
  | 218 => F218
  | 221 => F221
  | 224 => F224
  | 227 => F227
  | 228 => F228
  | 234 => F234
  | 235 => F235
  | 236 => F236
  | 237 => F237
  | 242 => F242
  | 243 => F243
  | 244 => F244
  | 245 => F245
  | 246 => F246
  | 248 => F248
  | 249 => F249
  | 250 => F250
  | 251 => F251
  | 252 => F252
  | 256 => F256
  | 257 => F257
  | 258 => F258
  | 260 => F260
  | 261 => F261
  | 262 => F262
  | 263 => F263
  | 264 => F264
  | 269 => F269
  | 270 => F270
  | 271 => F271
  | 272 => F272
  | 273 => F273
  | 274 => F274
  | 275 => F275
  | 276 => F276
  | 279 => F279
  | 280 => F280
  | 281 => F281
  | 282 => F282
  | 283 => F283
  | 284 => F284
  | 286 => F286
  | _ => { n := 0, sh := [], obs := [] }
abbrev sg9 : Sg := { bi := ⟨[(0, [[.F]])], []⟩, bo := ⟨[(0, [[.S]])], []⟩, np := 1, ext := false }
abbrev sg17 : Sg := { bi := ⟨[(0, [[.F]]), (1, [[.S]])], []⟩, bo := ⟨[(0, [[.S]])], []⟩, np := 2, ext := false }
abbrev sg19 : Sg := { bi := ⟨[(0, [[.F]])], []⟩, bo := ⟨[(0, [[.U 7]])], []⟩, np := 1, ext := false }
abbrev sg21 : Sg := { bi := ⟨[(0, [[.F, .F]]), (1, [[.F, .F]])], []⟩, bo := ⟨[(0, [[.S]])], []⟩, np := 2, ext := false }
abbrev sg22 : Sg := { bi := ⟨[(0, [[.F]]), (1, [[.F]])], []⟩, bo := ⟨[(0, [[.S]])], []⟩, np := 2, ext := false }
abbrev sg56 : Sg := { bi := ⟨[(0, [[.F]])], []⟩, bo := ⟨[(0, [[.S]])], []⟩, np := 1, ext := false }
abbrev sg57 : Sg := { bi := ⟨[(0, [[.F]])], []⟩, bo := ⟨[(0, [[.S]])], []⟩, np := 1, ext := false }
abbrev sg69 : Sg := { bi := ⟨[(0, [[.S]]), (1, [[.S]]), (2, [[.S]])], []⟩, bo := ⟨[(0, [[.S]])], []⟩, np := 3, ext := false }
abbrev sg75 : Sg := { bi := ⟨[(0, [[.S]]), (1, [[.S]]), (2, [[.S]])], []⟩, bo := ⟨[(0, [[.S]])], []⟩, np := 3, ext := false }
abbrev sg79 : Sg := { bi := ⟨[(0, [[.S, .S, .F, .F, .S, .F, .F]]), (1, [[.S]])], []⟩, bo := ⟨[(0, [[.S]])], []⟩, np := 2, ext := false }
abbrev sg82 : Sg := { bi := ⟨[(0, [[.S, .S, .F, .F, .S, .F, .F]])], []⟩, bo := ⟨[(0, [[.S, .S, .U 4, .U 4, .S, .U 4, .U 4]])], []⟩, np := 1, ext := false }
abbrev sg85 : Sg := { bi := ⟨[(0, [[.F]]), (1, [[.F]])], []⟩, bo := ⟨[(0, [[.S]])], []⟩, np := 2, ext := false }
abbrev sg86 : Sg := { bi := ⟨[(0, [[.F]]), (1, [[.F]])], []⟩, bo := ⟨[(0, [[.S]])], []⟩, np := 2, ext := false }
abbrev sg87 : Sg := { bi := ⟨[(0, [[.S, .S, .F, .F, .S, .F, .F]]), (1, [[.S, .S, .F, .F, .S, .F, .F]])], []⟩, bo := ⟨[(0, [[.S]])], []⟩, np := 2, ext := false }
abbrev sg126 : Sg := { bi := ⟨[(0, [[.S, .S, .F, .F, .S, .F, .F]])], []⟩, bo := ⟨[(0, [[.S]])], []⟩, np := 1, ext := false }
abbrev sg127 : Sg := { bi := ⟨[(0, [[.S, .S, .F, .F, .S, .F, .F]])], []⟩, bo := ⟨[(0, [[.S]])], []⟩, np := 1, ext := false }
abbrev sg144 : Sg := { bi := ⟨[(0, [[.F, .F]])], []⟩, bo := ⟨[(0, [[.S]])], []⟩, np := 1, ext := false }
abbrev sg159 : Sg := { bi := ⟨[(0, [[.F, .F]]), (1, [[.S]])], []⟩, bo := ⟨[(0, [[.S]])], []⟩, np := 2, ext := false }
abbrev sg162 : Sg := { bi := ⟨[(0, [[.F, .F]])], []⟩, bo := ⟨[(0, [[.U 4, .U 4]])], []⟩, np := 1, ext := false }
abbrev sg166 : Sg := { bi := ⟨[(0, [[.S, .S, .S, .F]]), (1, [[.S, .S, .S, .F]])], []⟩, bo := ⟨[(0, [[.S]])], []⟩, np := 2, ext := false }
abbrev sg167 : Sg := { bi := ⟨[(0, [[.S, .S, .S, .F]]), (1, [[.S, .S, .S, .F]])], []⟩, bo := ⟨[(0, [[.S]])], []⟩, np := 2, ext := false }
abbrev sg194 : Sg := { bi := ⟨[(0, [[.S]])], []⟩, bo := ⟨[(0, [[.S]])], []⟩, np := 1, ext := false }
abbrev sg195 : Sg := { bi := ⟨[(0, [[.F, .F]])], []⟩, bo := ⟨[(0, [[.S]])], []⟩, np := 1, ext := false }
abbrev sg196 : Sg := { bi := ⟨[(0, [[.S]])], []⟩, bo := ⟨[(0, [[.S]])], []⟩, np := 1, ext := false }
abbrev sg206 : Sg := { bi := ⟨[(0, [[.S]]), (1, [[.S]])], [(1000000, [.F, .F])]⟩, bo := ⟨[(0, [[.S]])], [(1000000, [.F, .F])]⟩, np := 2, no := 1 }
abbrev sg207 : Sg := { bi := ⟨[(0, [[.S]]), (1, [[.F]])], [(1000000, [.F, .F])]⟩, bo := ⟨[(0, [[.S]])], [(1000000, [.F, .F])]⟩, np := 2, no := 1 }
abbrev sg208 : Sg := { bi := ⟨[(0, [[.S, .S, .S, .F]]), (1, [[.S]])], []⟩, bo := ⟨[(0, [[.S]])], []⟩, np := 2, ext := false }
abbrev sg215 : Sg := { bi := ⟨[(0, [[.F]]), (1, [[.S]])], []⟩, bo := ⟨[(0, [[.S]])], []⟩, np := 2, ext := false }
abbrev sg216 : Sg := { bi := ⟨[(0, [[.F]]), (1, [[.S]])], []⟩, bo := ⟨[(0, [[.S]])], []⟩, np := 2, ext := false }
abbrev sg217 : Sg := { bi := ⟨[(0, [[.F]])], []⟩, bo := ⟨[(0, [[.U 4]])], []⟩, np := 1, ext := false }
abbrev sg218 : Sg := { bi := ⟨[(0, [[.F]])], []⟩, bo := ⟨[(0, [[.U 4]])], []⟩, np := 1, ext := false }
abbrev sg221 : Sg := { bi := ⟨[(0, [[.F]]), (1, [[.F]])], []⟩, bo := ⟨[(0, [[.S]])], []⟩, np := 2, ext := false }
abbrev sg224 : Sg := { bi := ⟨[(0, [[.S]])], []⟩, bo := ⟨[(0, [[.S]])], []⟩, np := 1, ext := false }
abbrev sg227 : Sg := { bi := ⟨[(0, [[.S]])], []⟩, bo := ⟨[(0, [[.S]])], []⟩, np := 1, ext := false }
abbrev sg228 : Sg := { bi := ⟨[(0, [[.S]])], []⟩, bo := ⟨[(0, [[.S]])], []⟩, np := 1, ext := false }
abbrev sg234 : Sg := { bi := ⟨[(0, [[.S]]), (1, [[.S]]), (2, [[.S]]), (3, [[.S]])], []⟩, bo := ⟨[(0, [[.S]])], []⟩, np := 4, ext := false }
abbrev sg235 : Sg := { bi := ⟨[(0, [[.F, .F]]), (1, [[.S]])], []⟩, bo := ⟨[(0, [[.S]])], []⟩, np := 2, ext := false }
abbrev sg236 : Sg := { bi := ⟨[(0, [[.S]])], []⟩, bo := ⟨[(0, [[.S]])], []⟩, np := 1, ext := false }
abbrev sg237 : Sg := { bi := ⟨[(0, [[.S]])], []⟩, bo := ⟨[(0, [[.S]])], []⟩, np := 1, ext := false }
abbrev sg242 : Sg := { bi := ⟨[(0, [[.F]]), (1, [[.S]])], [(1000000, [.S])]⟩, bo := ⟨[(0, [[.S]])], [(1000000, [.S])]⟩, np := 2, ext := false, no := 1 }
abbrev sg243 : Sg := { bi := ⟨[(0, [[.S, .S, .S, .F]]), (1, [[.S]])], [(1000000, [.S])]⟩, bo := ⟨[(0, [[.S]])], [(1000000, [.S])]⟩, np := 2, ext := false, no := 1 }
abbrev sg244 : Sg := { bi := ⟨[(0, [[.S]]), (1, [[.F]]), (2, [[.S, .S, .S, .S]])], [(1000000, [.F, .F])]⟩, bo := ⟨[(0, [[.S]])], [(1000000, [.F, .F])]⟩, np := 3, no := 1 }
abbrev sg245 : Sg := { bi := ⟨[(0, [[.F]])], []⟩, bo := ⟨[(0, [[.U 1], [.S]])], []⟩, np := 1, ext := false }
abbrev sg246 : Sg := { bi := ⟨[(0, [[.S]]), (1, [[.S, .S, .S, .F]]), (2, [[.S]])], [(1000000, [.S, .S, .A 1])]⟩, bo := ⟨[(0, [[.S]])], [(1000000, [.S, .S, .A 1])]⟩, np := 3, no := 1 }
abbrev sg248 : Sg := { bi := ⟨[(0, [[.S, .S, .S, .F]]), (1, [[.S]])], []⟩, bo := ⟨[(0, [[.S]])], []⟩, np := 2, ext := false }
abbrev sg249 : Sg := { bi := ⟨[(0, [[.S, .S, .S, .F]]), (1, [[.S]])], []⟩, bo := ⟨[(0, [[.S]])], []⟩, np := 2, ext := false }
abbrev sg250 : Sg := { bi := ⟨[(0, [[.S, .S, .S, .F]])], []⟩, bo := ⟨[(0, [[.S, .S, .S, .U 4]])], []⟩, np := 1, ext := false }
abbrev sg251 : Sg := { bi := ⟨[(0, [[.S, .S, .S, .F]])], []⟩, bo := ⟨[(0, [[.S, .S, .S, .U 4]])], []⟩, np := 1, ext := false }
abbrev sg252 : Sg := { bi := ⟨[(0, [[.S, .S, .S, .S]]), (1, [[.S, .S, .S, .S]])], []⟩, bo := ⟨[(0, [[.S]])], []⟩, np := 2, ext := false }
abbrev sg256 : Sg := { bi := ⟨[(0, [[.S]])], []⟩, bo := ⟨[(0, [[.S]])], []⟩, np := 1, ext := false }
abbrev sg257 : Sg := { bi := ⟨[(0, [[.S]])], []⟩, bo := ⟨[(0, [[.S]])], []⟩, np := 1, ext := false }
abbrev sg258 : Sg := { bi := ⟨[(0, [[.S]])], []⟩, bo := ⟨[(0, [[.S]])], []⟩, np := 1, ext := false }
abbrev sg260 : Sg := { bi := ⟨[(0, [[.S]])], []⟩, bo := ⟨[(0, [[.S]])], []⟩, np := 1, ext := false }
abbrev sg261 : Sg := { bi := ⟨[(0, [[.S]])], []⟩, bo := ⟨[(0, [[.S]])], []⟩, np := 1, ext := false }
abbrev sg262 : Sg := { bi := ⟨[(0, [[.F, .F]]), (1, [[.S]])], []⟩, bo := ⟨[(0, [[.S]])], []⟩, np := 2, ext := false }
abbrev sg263 : Sg := { bi := ⟨[(0, [[.F, .F]]), (1, [[.S, .S, .S, .F]]), (2, [[.S]])], []⟩, bo := ⟨[(0, [[.S]])], []⟩, np := 3, ext := false }
abbrev sg264 : Sg := { bi := ⟨[(0, [[.S, .S, .S, .F]])], []⟩, bo := ⟨[(0, [[.U 0], [.S]])], []⟩, np := 1, ext := false }
abbrev sg269 : Sg := { bi := ⟨[(0, [[.S]]), (1, [[.S]]), (2, [[.S]])], [(1000000, [.U 1, .S])]⟩, bo := ⟨[(0, [])], [(1000000, [.U 1, .S])]⟩, np := 3, no := 1 }
abbrev sg270 : Sg := { bi := ⟨[(0, [[.S]]), (1, [[.S]]), (2, [[.S, .S, .S, .S]])], [(1000000, [.U 1, .S])]⟩, bo := ⟨[(0, [])], [(1000000, [.U 1, .S])]⟩, np := 3, no := 1 }
abbrev sg271 : Sg := { bi := ⟨[(0, [[.F]]), (1, [[.S]])], []⟩, bo := ⟨[(0, [[.S]])], []⟩, np := 2, ext := false }
abbrev sg272 : Sg := { bi := ⟨[(0, [[.F]]), (1, [[.S]])], []⟩, bo := ⟨[(0, [[.S]])], []⟩, np := 2, ext := false }
abbrev sg273 : Sg := { bi := ⟨[(0, [[.F]])], []⟩, bo := ⟨[(0, [[.U 4]])], []⟩, np := 1, ext := false }
abbrev sg274 : Sg := { bi := ⟨[(0, [[.S, .S, .S, .F]]), (1, [[.S]])], []⟩, bo := ⟨[(0, [[.S]])], []⟩, np := 2, ext := false }
abbrev sg275 : Sg := { bi := ⟨[(0, [[.S, .S, .S, .S]])], []⟩, bo := ⟨[(0, [[.S], [.S]])], []⟩, np := 1, ext := false }
abbrev sg276 : Sg := { bi := ⟨[(0, [[.U 0]]), (1, [[.S]]), (2, [[.S]])], []⟩, bo := ⟨[(0, [[.S]]), (1, [[.U 0]])], []⟩, np := 3, io := some 0 }
abbrev sg279 : Sg := { bi := ⟨[(0, [[.S, .S, .S, .S]])], []⟩, bo := ⟨[(0, [[.S]])], []⟩, np := 1, ext := false }
abbrev sg280 : Sg := { bi := ⟨[(0, [[.F]]), (1, [[.S]])], []⟩, bo := ⟨[(0, [[.S]])], []⟩, np := 2, ext := false }
abbrev sg281 : Sg := { bi := ⟨[(0, [[.S, .S, .S, .S]]), (1, [[.S]])], []⟩, bo := ⟨[(0, [[.S]])], []⟩, np := 2, ext := false }
abbrev sg282 : Sg := { bi := ⟨[(0, [[.S, .S, .S, .S]])], []⟩, bo := ⟨[(0, [[.S, .S, .S, .S]])], []⟩, np := 1, ext := false }
abbrev sg283 : Sg := { bi := ⟨[(0, [[.S, .S, .S, .F]]), (1, [[.S]]), (2, [[.S]]), (3, [[.S]])], []⟩, bo := ⟨[(0, [[.S]])], []⟩, np := 4, ext := false }
abbrev sg284 : Sg := { bi := ⟨[(0, [[.S, .S, .S, .F]])], []⟩, bo := ⟨[(0, [[.U 1]])], []⟩, np := 1, ext := false }
abbrev sg286 : Sg := { bi := ⟨[(0, [[.S, .S, .S, .F]]), (1, [[.S]])], []⟩, bo := ⟨[(0, [[.S]])], []⟩, np := 2, ext := false }
def Sgs : FuncId → List Sg
  | 9 => [sg9]
  | 17 => [sg17]
  | 19 => [sg19]
  | 21 => [sg21]
  | 22 => [sg22]
  | 56 => [sg56]
  | 57 => [sg57]
  | 69 => [sg69]
  | 75 => [sg75]
  | 79 => [sg79]
  | 82 => [sg82]
  | 85 => [sg85]
  | 86 => [sg86]
  | 87 => [sg87]
  | 126 => [sg126]
  | 127 => [sg127]
  | 144 => [sg144]
  | 159 => [sg159]
  | 162 => [sg162]
  | 166 => [sg166]
  | 167 => [sg167]
  | 194 => [sg194]
  | 195 => [sg195]
  | 196 => [sg196]
  | 206 => [sg206]
  | 207 => [sg207]
  | 208 => [sg208]
  | 215 => [sg215]
  | 216 => [sg216]
  | 217 => [sg217]
  | 218 => [sg218]
  | 221 => [sg221]
  | 224 => [sg224]
  | 227 => [sg227]
  | 228 => [sg228]
  | 234 => [sg234]
  | 235 => [sg235]
  | 236 => [sg236]
  | 237 => [sg237]
  | 242 => [sg242]
  | 243 => [sg243]
  | 244 => [sg244]
  | 245 => [sg245]
  | 246 => [sg246]
  | 248 => [sg248]
  | 249 => [sg249]
  | 250 => [sg250]
  | 251 => [sg251]
  | 252 => [sg252]
  | 256 => [sg256]
  | 257 => [sg257]
  | 258 => [sg258]
  | 260 => [sg260]
  | 261 => [sg261]
  | 262 => [sg262]
  | 263 => [sg263]
  | 264 => [sg264]
  | 269 => [sg269]
  | 270 => [sg270]
  | 271 => [sg271]
  | 272 => [sg272]
  | 273 => [sg273]
  | 274 => [sg274]
  | 275 => [sg275]
  | 276 => [sg276]
  | 279 => [sg279]
  | 280 => [sg280]
  | 281 => [sg281]
  | 282 => [sg282]
  | 283 => [sg283]
  | 284 => [sg284]
  | 286 => [sg286]
  | _ => []
end Go.Own
