/- What is told of the functions: shapes and kinds. No conditions. -/
import Derived.Test.YticdjfieofjcaaaProg
import Derived.KernelRfl
import Derived.Test.YticdjfieofjcaaaOwn2
set_option linter.unusedVariables false
set_option linter.unusedSimpArgs false
set_option linter.unnecessarySimpa false
namespace Go.Own
open Go Go.Proofs
def τ : TypeId → Option TI
  | 3 => some { size := 1, bytes := 8, zero := [.int .i64 0], agg := false, kind := .int .i64 }
  | 4 => some { size := 1, bytes := 1, zero := [.bool false], agg := false, kind := .bool }
  | 5 => some { size := 1, bytes := 1, zero := [.int .u8 0], agg := false, kind := .int .u8 }
  | 22 => some { size := 1, bytes := 24, zero := [.sl []], agg := false, kind := .sl 3 }
  | 27 => some { size := 1, bytes := 24, zero := [.sl []], agg := false, kind := .sl 5 }
  | 140 => some { size := 3, bytes := 40, zero := [.sl [], .int .i64 0, .int .i64 0], agg := true, kind := .struct [(0, 1, false), (1, 1, false), (2, 1, false)] }
  | _ => none
set_option maxRecDepth 100000 in
theorem tables : Tables Try.prog τ := by
  intro t i h
  unfold τ at h
  split at h <;> (try cases h)
  · exact ⟨_, _, _, rfl, rfl, rfl, rfl, rfl, rfl, rfl, by decide, rfl, rfl⟩
  · exact ⟨_, _, _, rfl, rfl, rfl, rfl, rfl, rfl, rfl, by decide, rfl, rfl⟩
  · exact ⟨_, _, _, rfl, rfl, rfl, rfl, rfl, rfl, rfl, by decide, rfl, rfl⟩
  · exact ⟨_, _, _, rfl, rfl, rfl, rfl, rfl, rfl, rfl, by decide, rfl, rfl⟩
  · exact ⟨_, _, _, rfl, rfl, rfl, rfl, rfl, rfl, rfl, by decide, rfl, rfl⟩
  · refine ⟨_, _, _, rfl, rfl, rfl, rfl, rfl, rfl, rfl, by decide, rfl, _, rfl, rfl, fun j f hf => ?_⟩
    match j with
    | 0 => simp at hf; subst hf; exact ⟨_, _, rfl, rfl, rfl, rfl, by decide, rfl, rfl⟩
    | 1 => simp at hf; subst hf; exact ⟨_, _, rfl, rfl, rfl, rfl, by decide, rfl, rfl⟩
    | 2 => simp at hf; subst hf; exact ⟨_, _, rfl, rfl, rfl, rfl, by decide, rfl, rfl⟩
    | j + 3 => simp at hf
abbrev vi : V := .one (.c (.int .i64 0))
abbrev vy : V := .one (.c (.int .u8 0))
abbrev vb : V := .one (.c (.bool false))
abbrev vl : V := .one (.c (.sl []))
abbrev vs : V := .one (.c (.str []))
abbrev vj : V := .one .junk

def F4 : FA := { n := 140, sh := [vl, vj, vb, vi, vi, vi, vl, vb, vi, vl, vb, .tup [.c (.int .i64 0), .c (.int .i64 0), .c (.int .i64 0)], vl, .tup [.c (.int .i64 0), .c (.int .i64 0), .c (.int .i64 0)], vi, vi, vi, vi, vi, vi, vl, vl, vi, vi, vi, vi, vl, vi, vb, vi, vb, vb, vi, vi, vb, vb, vb, vi, vb, vb, vb, vi, vb, vb, vb, vi, vb, vb, vl, vi, vb, vi, vl, vi, vb, vi, vi, vb, vb, vl, vi, .one (.cp [.int .i64 0]), vi, vi, vb, vb, vi, vb, vb, vl, vi, .one (.cp [.int .i64 0]), vi, vl, vi, vi, .one (.cp [.int .i64 0]), vi, vi, vb, vb, vb, vl, vi, .one (.cp [.int .i64 0]), vi, vb, vb, vb, vl, vi, .one (.cp [.int .i64 0]), vi, vi, vb, vb, vb, vi, vb, vb, vl, vi, .one (.cp [.int .i64 0]), vi, vi, vb, vb, vb, vb, vb, vi, vb, vb, vl, vi, vb, vb, vb, vb, vi, vb, vb, vl, vi, vi, vb, vb, vb, vb, vi, vb, vb, vl, vi, vi, vi, vi, vb, vb, vb], obs := [], tk := [11, 12, 31, 36, 40, 44, 48, 55, 57, 58, 68, 81, 88, 96, 99, 108, 109, 112, 118, 121, 128, 129, 131, 132, 134, 135], keep := [(0, [0]), (1, [0, 10]), (2, [2]), (3, [3, 4, 5]), (4, [3, 4, 5, 6]), (5, [3, 4, 5, 6, 28]), (6, [2]), (7, [3, 4, 5, 6, 47]), (8, [2]), (9, [3, 4, 5, 6, 7]), (10, [3, 4, 5, 6, 7, 8]), (11, [3, 4, 5, 6, 7, 8, 54]), (12, [3, 4, 5, 6, 7, 8]), (13, [3, 4, 5, 6, 7, 8]), (14, [3, 4, 5, 6, 7, 8, 107]), (15, [2]), (16, [2])] }
def F13 : FA := { n := 51, sh := [vi, vi, vi, vj, vj, vj, vl, vl, vi, vl, vi, vb, vb, vb, vi, vi, vi, vb, vb, vb, vl, vi, vi, vb, vi, vi, vi, vb, vb, vi, vb, vb, vi, vi, vb, vb, vb, vb, vi, vb, vb, vi, vi, vb, vb, vb, vl, vi, vl, vl, vl], obs := [], tk := [13, 20, 24, 28, 31, 37, 40, 46, 50], dp := [9, 48, 49], keep := [(0, [0, 1, 2]), (1, [0, 1, 2, 7]), (2, [0, 1, 2, 7, 19]), (3, [6]), (4, [0, 1, 2, 7, 8]), (5, [0, 1, 2, 7, 8, 23]), (6, [0, 1, 2, 7, 8]), (7, [0, 1, 2, 7, 8, 45]), (8, [0, 1, 2, 7, 8]), (9, [6])] }
def F14 : FA := { n := 45, sh := [vi, vi, vi, vj, vj, vj, vl, vi, vi, vl, vi, vi, vb, vb, vb, vi, vi, vi, vb, vb, vb, vi, vi, vi, vb, vb, vb, vb, vi, vi, vb, vb, vi, vi, vi, vi, vi, vb, vi, vi, vl, vi, vl, vl, vl], obs := [], tk := [14, 22, 23, 28, 32, 34, 38, 40, 44], dp := [42, 43], keep := [(0, [0, 1, 2]), (1, [0, 1, 2, 20]), (2, [6]), (3, [0, 1, 7, 8]), (4, [1, 7, 8, 23]), (5, [6]), (6, [1, 7, 8, 23, 24]), (7, [1, 7, 23, 26]), (8, [7, 8]), (9, [1, 7, 30]), (10, [7, 8]), (11, [7, 8, 9]), (12, [8, 9, 10]), (13, [8, 9, 10, 37]), (14, [8, 9, 10]), (15, [8, 9, 10]), (16, [6])] }
def F18 : FA := { n := 6, sh := [vl, vj, vb, vl, vi, vb], obs := [], tk := [3], keep := [(0, [0]), (1, [2])] }
def F19 : FA := { n := 16, sh := [vl, vj, vi, vi, vi, .one (.ptr 7 0), vl, .one (.ptr 7 0), .one (.ptr 7 0), vi, .one (.ptr 7 0), vl, vi, .one (.ptr 7 0), vl, vi], obs := [(7, [.sl [], .int .i64 0, .int .i64 0])], tk := [6, 13], dp := [11, 14], fz := [11, 14], nw := [7], keep := [(0, [0]), (1, [5]), (2, [2, 3, 4])] }
def F56 : FA := { n := 15, sh := [vi, vi, vi, vj, vj, vj, vb, vi, vi, vb, vb, vi, vi, vb, vb], obs := [], tk := [8, 10, 11, 12], keep := [(0, [0, 1, 2]), (1, [6])] }
def F57 : FA := { n := 15, sh := [vi, vi, vi, vj, vj, vj, vb, vi, vi, vb, vb, vi, vi, vb, vb], obs := [], tk := [8, 10, 11, 12], keep := [(0, [0, 1, 2]), (1, [6])] }
def F58 : FA := { n := 32, sh := [vl, vj, .one (.ptr 31 0), vi, vi, vl, vi, vi, vi, vl, vi, vb, vb, vi, vb, vb, vi, vi, vi, vi, vl, vi, .one (.cp [.int .u8 0]), vy, vi, vi, vi, vi, vl, vi, .one (.ag [.sl [], .int .i64 0, .int .i64 0]), .one (.ptr 31 0)], obs := [(31, [.sl [], .int .i64 0, .int .i64 0])], tk := [12, 16, 18, 28, 29], keep := [(0, [0]), (1, [0, 3]), (2, [0, 3, 4]), (3, [0, 3, 4, 15]), (4, [0, 3, 4]), (5, [0, 3, 4]), (6, [2])], n0 := some 31 }
def F59 : FA := { n := 31, sh := [.one (.ptr 1000000 0), vi, vj, vj, vi, vi, vi, vi, vi, vb, vi, vb, .one (.ptr 1000000 0), vi, vi, vi, .one (.ptr 1000000 0), vi, .one (.ptr 1000000 0), vi, .one (.ptr 1000000 0), vi, vi, vi, vi, vi, vi, vi, vi, vi, vi], obs := [(1000000, [.sl [], .int .i64 0, .int .i64 0])], tk := [12, 14, 20, 22, 24, 27, 29], keep := [(0, [0, 1]), (1, [0, 1, 9]), (2, [4]), (3, [0, 1, 11]), (4, [4]), (5, [0, 1, 5]), (6, [0, 1, 5, 6]), (7, [1, 5, 6, 7]), (8, [4])] }
def F60 : FA := { n := 12, sh := [.one (.ptr 1000000 0), vl, vj, vj, vi, vl, .one (.ptr 1000000 0), vl, vi, vi, .one (.cp [.int .i64 0]), vi], obs := [(1000000, [.sl [], .int .i64 0, .int .i64 0])], tk := [6, 7], keep := [(0, [0, 1]), (1, [4])] }
def F104 : FA := { n := 58, sh := [.one (.ptr 1000000 0), vj, vi, vi, .one (.ptr 1000000 0), .one (.ptr 1000000 0), .one (.ptr 1000000 0), .one (.ptr 1000000 2), vi, vi, vi, .one (.ptr 1000000 0), .one (.ptr 1000000 2), .one (.ptr 1000000 0), .one (.ptr 1000000 0), .one (.ptr 1000000 2), vi, vi, .one (.ptr 1000000 0), .one (.ptr 1000000 0), .one (.ptr 1000000 2), vi, vi, vi, vi, .one (.ptr 1000000 0), .one (.ptr 1000000 0), .one (.ptr 1000000 1), vi, .one (.ptr 1000000 0), .one (.ptr 1000000 0), .one (.ptr 1000000 0), vl, vi, vb, vi, .one (.ptr 1000000 0), .one (.ptr 1000000 0), .one (.ptr 1000000 0), vl, .one (.ptr 1000000 0), .one (.ptr 1000000 0), .one (.ptr 1000000 1), vi, .one (.cp [.int .u8 0]), vy, vi, vi, vi, .one (.ptr 1000000 0), .one (.ptr 1000000 0), .one (.ptr 1000000 0), .one (.ptr 1000000 1), vi, vi, .one (.ptr 1000000 0), .one (.ptr 1000000 1), vi], obs := [(1000000, [.sl [], .int .i64 0, .int .i64 0])], tk := [8, 35, 50, 53, 57], keep := [(0, [0]), (1, [0]), (2, [0, 3]), (3, [0, 3, 34]), (4, [0, 3]), (5, [3]), (6, [2])] }
def An : FuncId → FA
  | 4 => F4
  | 13 => F13
  | 14 => F14
  | 18 => F18
  | 19 => F19
  | 56 => F56
  | 57 => F57
  | 58 => F58
  | 59 => F59
  | 60 => F60
  | 104 => F104
  | _ => { n := 0, sh := [], obs := [] }
def Sgs : FuncId → List Sg
  | 4 => [{ bi := ⟨[(0, [[.F]])], []⟩, bo := ⟨[(0, [[.S]])], []⟩, np := 1, ext := false }]
  | 13 => [{ bi := ⟨[(0, [[.S]]), (1, [[.S]]), (2, [[.S]])], []⟩, bo := ⟨[(0, [[.U 1]])], []⟩, np := 3, ext := false }]
  | 14 => [{ bi := ⟨[(0, [[.S]]), (1, [[.S]]), (2, [[.S]])], []⟩, bo := ⟨[(0, [[.U 1]])], []⟩, np := 3, ext := false }]
  | 18 => [{ bi := ⟨[(0, [[.F]])], []⟩, bo := ⟨[(0, [[.S]])], []⟩, np := 1, ext := false }]
  | 19 => [{ bi := ⟨[(0, [[.F]])], []⟩, bo := ⟨[(0, [[.S], [.S], [.S]])], []⟩, np := 1, ext := false }]
  | 56 => [{ bi := ⟨[(0, [[.S]]), (1, [[.S]]), (2, [[.S]])], []⟩, bo := ⟨[(0, [[.S]])], []⟩, np := 3, ext := false }]
  | 57 => [{ bi := ⟨[(0, [[.S]]), (1, [[.S]]), (2, [[.S]])], []⟩, bo := ⟨[(0, [[.S]])], []⟩, np := 3, ext := false }]
  | 58 => [{ bi := ⟨[(0, [[.F]])], []⟩, bo := ⟨[(0, [[.S]])], [(0, [.F, .S, .S])]⟩, np := 1 }]
  | 59 => [{ bi := ⟨[(0, [[.S]]), (1, [[.S]])], [(1000000, [.F, .S, .S])]⟩, bo := ⟨[(0, [[.S]])], [(1000000, [.F, .S, .S])]⟩, np := 2, no := 1 }]
  | 60 => [{ bi := ⟨[(0, [[.S]]), (1, [[.F]])], [(1000000, [.F, .S, .S])]⟩, bo := ⟨[(0, [[.S]])], [(1000000, [.F, .S, .S])]⟩, np := 2, no := 1 }]
  | 104 => [{ bi := ⟨[(0, [[.S]])], [(1000000, [.F, .S, .S])]⟩, bo := ⟨[(0, [[.S]])], [(1000000, [.F, .S, .S])]⟩, np := 1, no := 1 }]
  | _ => []
end Go.Own
