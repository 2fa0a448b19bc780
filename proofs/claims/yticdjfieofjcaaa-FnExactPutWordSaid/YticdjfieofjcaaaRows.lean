/-
  NARROWER THAN 'FOR EVERY INPUT', by the rows' own cells (each row's printed sentence says how): FnExactWorkerOk: loops · FnExactSendsOf: loops · FnExactNewestOf: loops · FnExactPutWord: loops · FnExactOverOk: loops.
  DERIVED. THE GIVEN ROWS OF THIS SEAT. 10 by the template 'for every input the law returns true; each argument reads behind the call as it read before'; 0 by the template 'total and deterministic' (their statements: YticdjfieofjcaaaTotals.lean).
  GIVEN WITH THE SEED: the statements are not yours to turn. If you find one false, say at which input.
  Laid BY PROGRAM, IN A SANDBOX (cutbox-rows.mjs): the forced cells as the released guide's own fill.sh prints them over the translation ab74a954a25e1e64… (all of the seat's roots in one cut). By AI agents, Wed Nov 11 2026. No macro, syntax, notation, axiom, sorry.
-/
import Derived.Test.YticdjfieofjcaaaChecked
import GoSem.Claim
import GoSem.ClaimJoined
import GoSem.ClaimMapViews
import Derived.JoinedTies
import Derived.KernelRfl
namespace Go.Proofs.Yticdjfieofjcaaa
/- THE CELL 'sum', in the pinned program and in every row, IS THE sha256 OF THE DUMP (.gsa) THAT YticdjfieofjcaaaProg.lean LOADS. Nothing in Lean hashes anything: it is a label: what it is worth is what the hold of that sum in a sandbox is worth. -/
noncomputable def Try.pinned : Pinned := { name := "yticdjfieofjcaaa", sum := "ab74a954a25e1e64be0d94b7a15ec5640c86d23ed5db9f74e0cdc944bb0cc4f4", checked := Try.checked }
namespace Rows
def none {H : Type} : Left H := { results := [], args := [] }

/-- 'laws.FnExactWhom': WHATEVER THE INPUT: true; the input reads as it did. -/
def fnExactWhomSpec : ChangeSpec := { name := "fnExactWhom", fn := fun _ => fun
  | [d1, d2, d3] => { results := [.lit (.bool true)], args := [d1, d2, d3] }
  | _ => none }
def fnExactWhomRow : OpenClaim := { program := "yticdjfieofjcaaa", sum := "ab74a954a25e1e64be0d94b7a15ec5640c86d23ed5db9f74e0cdc944bb0cc4f4", func := "loop.example/g00236/laws.FnExactWhom", spec := "fnExactWhom", apart := false }
def FnExactWhomSaid : Prop := fnExactWhomRow.holds Try.pinned (OpenSpec.ofChange fnExactWhomSpec)

/-- ITS FALSE NEIGHBOUR: 'it returns false'. Refute it at one input. -/
def fnExactWhomWrong : ChangeSpec := { name := "fnExactWhom", fn := fun _ => fun
  | [d1, d2, d3] => { results := [.lit (.bool false)], args := [d1, d2, d3] }
  | _ => none }
def FnExactWhomWrongFalsely : Prop := fnExactWhomRow.holds Try.pinned (OpenSpec.ofChange fnExactWhomWrong)

/-- 'laws.FnWhom': WHATEVER THE INPUT: true; the input reads as it did. -/
def fnWhomSpec : ChangeSpec := { name := "fnWhom", fn := fun _ => fun
  | [d] => { results := [.lit (.bool true)], args := [d] }
  | _ => none }
def fnWhomRow : OpenClaim := { program := "yticdjfieofjcaaa", sum := "ab74a954a25e1e64be0d94b7a15ec5640c86d23ed5db9f74e0cdc944bb0cc4f4", func := "loop.example/g00236/laws.FnWhom", spec := "fnWhom", apart := false }
def FnWhomSaid : Prop := fnWhomRow.holds Try.pinned (OpenSpec.ofChange fnWhomSpec)

/-- ITS FALSE NEIGHBOUR: 'it returns false'. Refute it at one input. -/
def fnWhomWrong : ChangeSpec := { name := "fnWhom", fn := fun _ => fun
  | [d] => { results := [.lit (.bool false)], args := [d] }
  | _ => none }
def FnWhomWrongFalsely : Prop := fnWhomRow.holds Try.pinned (OpenSpec.ofChange fnWhomWrong)

/-- 'laws.FnSends': WHATEVER THE INPUT: true; the input reads as it did. -/
def fnSendsSpec : ChangeSpec := { name := "fnSends", fn := fun _ => fun
  | [d] => { results := [.lit (.bool true)], args := [d] }
  | _ => none }
def fnSendsRow : OpenClaim := { program := "yticdjfieofjcaaa", sum := "ab74a954a25e1e64be0d94b7a15ec5640c86d23ed5db9f74e0cdc944bb0cc4f4", func := "loop.example/g00236/laws.FnSends", spec := "fnSends", unfollowed := true, recurses := true, apart := false }
def FnSendsSaid : Prop := fnSendsRow.holds Try.pinned (OpenSpec.ofChange fnSendsSpec)

/-- ITS FALSE NEIGHBOUR: 'it returns false'. Refute it at one input. -/
def fnSendsWrong : ChangeSpec := { name := "fnSends", fn := fun _ => fun
  | [d] => { results := [.lit (.bool false)], args := [d] }
  | _ => none }
def FnSendsWrongFalsely : Prop := fnSendsRow.holds Try.pinned (OpenSpec.ofChange fnSendsWrong)

/-- 'laws.FnExactWorkerOk': WHATEVER THE INPUT: true; the input reads as it did. -/
def fnExactWorkerOkSpec : ChangeSpec := { name := "fnExactWorkerOk", fn := fun _ => fun
  | [d] => { results := [.lit (.bool true)], args := [d] }
  | _ => none }
def fnExactWorkerOkRow : OpenClaim := { program := "yticdjfieofjcaaa", sum := "ab74a954a25e1e64be0d94b7a15ec5640c86d23ed5db9f74e0cdc944bb0cc4f4", func := "loop.example/g00236/laws.FnExactWorkerOk", spec := "fnExactWorkerOk", recurses := true, loops := true, apart := false }
def FnExactWorkerOkSaid : Prop := fnExactWorkerOkRow.holds Try.pinned (OpenSpec.ofChange fnExactWorkerOkSpec)

/-- ITS FALSE NEIGHBOUR: 'it returns false'. Refute it at one input. -/
def fnExactWorkerOkWrong : ChangeSpec := { name := "fnExactWorkerOk", fn := fun _ => fun
  | [d] => { results := [.lit (.bool false)], args := [d] }
  | _ => none }
def FnExactWorkerOkWrongFalsely : Prop := fnExactWorkerOkRow.holds Try.pinned (OpenSpec.ofChange fnExactWorkerOkWrong)

/-- 'laws.FnExactSendsOf': WHATEVER THE INPUT: true; the input reads as it did. -/
def fnExactSendsOfSpec : ChangeSpec := { name := "fnExactSendsOf", fn := fun _ => fun
  | [d] => { results := [.lit (.bool true)], args := [d] }
  | _ => none }
def fnExactSendsOfRow : OpenClaim := { program := "yticdjfieofjcaaa", sum := "ab74a954a25e1e64be0d94b7a15ec5640c86d23ed5db9f74e0cdc944bb0cc4f4", func := "loop.example/g00236/laws.FnExactSendsOf", spec := "fnExactSendsOf", recurses := true, loops := true, apart := false }
def FnExactSendsOfSaid : Prop := fnExactSendsOfRow.holds Try.pinned (OpenSpec.ofChange fnExactSendsOfSpec)

/-- ITS FALSE NEIGHBOUR: 'it returns false'. Refute it at one input. -/
def fnExactSendsOfWrong : ChangeSpec := { name := "fnExactSendsOf", fn := fun _ => fun
  | [d] => { results := [.lit (.bool false)], args := [d] }
  | _ => none }
def FnExactSendsOfWrongFalsely : Prop := fnExactSendsOfRow.holds Try.pinned (OpenSpec.ofChange fnExactSendsOfWrong)

/-- 'laws.FnExactNewestOf': WHATEVER THE INPUT: true; the input reads as it did. -/
def fnExactNewestOfSpec : ChangeSpec := { name := "fnExactNewestOf", fn := fun _ => fun
  | [d1, d2] => { results := [.lit (.bool true)], args := [d1, d2] }
  | _ => none }
def fnExactNewestOfRow : OpenClaim := { program := "yticdjfieofjcaaa", sum := "ab74a954a25e1e64be0d94b7a15ec5640c86d23ed5db9f74e0cdc944bb0cc4f4", func := "loop.example/g00236/laws.FnExactNewestOf", spec := "fnExactNewestOf", unfollowed := true, recurses := true, loops := true, apart := false }
def FnExactNewestOfSaid : Prop := fnExactNewestOfRow.holds Try.pinned (OpenSpec.ofChange fnExactNewestOfSpec)

/-- ITS FALSE NEIGHBOUR: 'it returns false'. Refute it at one input. -/
def fnExactNewestOfWrong : ChangeSpec := { name := "fnExactNewestOf", fn := fun _ => fun
  | [d1, d2] => { results := [.lit (.bool false)], args := [d1, d2] }
  | _ => none }
def FnExactNewestOfWrongFalsely : Prop := fnExactNewestOfRow.holds Try.pinned (OpenSpec.ofChange fnExactNewestOfWrong)

/-- 'laws.FnExactPutWord': WHATEVER THE INPUT: true; the input reads as it did. -/
def fnExactPutWordSpec : ChangeSpec := { name := "fnExactPutWord", fn := fun _ => fun
  | [d1, d2] => { results := [.lit (.bool true)], args := [d1, d2] }
  | _ => none }
def fnExactPutWordRow : OpenClaim := { program := "yticdjfieofjcaaa", sum := "ab74a954a25e1e64be0d94b7a15ec5640c86d23ed5db9f74e0cdc944bb0cc4f4", func := "loop.example/g00236/laws.FnExactPutWord", spec := "fnExactPutWord", recurses := true, loops := true, apart := false }
def FnExactPutWordSaid : Prop := fnExactPutWordRow.holds Try.pinned (OpenSpec.ofChange fnExactPutWordSpec)

/-- ITS FALSE NEIGHBOUR: 'it returns false'. Refute it at one input. -/
def fnExactPutWordWrong : ChangeSpec := { name := "fnExactPutWord", fn := fun _ => fun
  | [d1, d2] => { results := [.lit (.bool false)], args := [d1, d2] }
  | _ => none }
def FnExactPutWordWrongFalsely : Prop := fnExactPutWordRow.holds Try.pinned (OpenSpec.ofChange fnExactPutWordWrong)

/-- 'laws.FnHit': WHATEVER THE INPUT: true; the input reads as it did. -/
def fnHitSpec : ChangeSpec := { name := "fnHit", fn := fun _ => fun
  | [d] => { results := [.lit (.bool true)], args := [d] }
  | _ => none }
def fnHitRow : OpenClaim := { program := "yticdjfieofjcaaa", sum := "ab74a954a25e1e64be0d94b7a15ec5640c86d23ed5db9f74e0cdc944bb0cc4f4", func := "loop.example/g00236/laws.FnHit", spec := "fnHit", unfollowed := true, recurses := true, apart := false }
def FnHitSaid : Prop := fnHitRow.holds Try.pinned (OpenSpec.ofChange fnHitSpec)

/-- ITS FALSE NEIGHBOUR: 'it returns false'. Refute it at one input. -/
def fnHitWrong : ChangeSpec := { name := "fnHit", fn := fun _ => fun
  | [d] => { results := [.lit (.bool false)], args := [d] }
  | _ => none }
def FnHitWrongFalsely : Prop := fnHitRow.holds Try.pinned (OpenSpec.ofChange fnHitWrong)

/-- 'laws.FnExactOverOk': WHATEVER THE INPUT: true; the input reads as it did. -/
def fnExactOverOkSpec : ChangeSpec := { name := "fnExactOverOk", fn := fun _ => fun
  | [d] => { results := [.lit (.bool true)], args := [d] }
  | _ => none }
def fnExactOverOkRow : OpenClaim := { program := "yticdjfieofjcaaa", sum := "ab74a954a25e1e64be0d94b7a15ec5640c86d23ed5db9f74e0cdc944bb0cc4f4", func := "loop.example/g00236/laws.FnExactOverOk", spec := "fnExactOverOk", unfollowed := true, recurses := true, loops := true, apart := false }
def FnExactOverOkSaid : Prop := fnExactOverOkRow.holds Try.pinned (OpenSpec.ofChange fnExactOverOkSpec)

/-- ITS FALSE NEIGHBOUR: 'it returns false'. Refute it at one input. -/
def fnExactOverOkWrong : ChangeSpec := { name := "fnExactOverOk", fn := fun _ => fun
  | [d] => { results := [.lit (.bool false)], args := [d] }
  | _ => none }
def FnExactOverOkWrongFalsely : Prop := fnExactOverOkRow.holds Try.pinned (OpenSpec.ofChange fnExactOverOkWrong)

/-- 'laws.FnOvers': WHATEVER THE INPUT: true; the input reads as it did. -/
def fnOversSpec : ChangeSpec := { name := "fnOvers", fn := fun _ => fun
  | [d] => { results := [.lit (.bool true)], args := [d] }
  | _ => none }
def fnOversRow : OpenClaim := { program := "yticdjfieofjcaaa", sum := "ab74a954a25e1e64be0d94b7a15ec5640c86d23ed5db9f74e0cdc944bb0cc4f4", func := "loop.example/g00236/laws.FnOvers", spec := "fnOvers", unfollowed := true, recurses := true, apart := false }
def FnOversSaid : Prop := fnOversRow.holds Try.pinned (OpenSpec.ofChange fnOversSpec)

/-- ITS FALSE NEIGHBOUR: 'it returns false'. Refute it at one input. -/
def fnOversWrong : ChangeSpec := { name := "fnOvers", fn := fun _ => fun
  | [d] => { results := [.lit (.bool false)], args := [d] }
  | _ => none }
def FnOversWrongFalsely : Prop := fnOversRow.holds Try.pinned (OpenSpec.ofChange fnOversWrong)

/- THE SECOND FORM. 'bulk': how many values and letters a reading holds, each counted each time it is reached (what is shared counts as often as it is met; a slice's spare places count too). A statement '..UptoSaid' is the law's where the arguments, and the package variables that the reading takes, are together of bulk at most 1048576: NARROWER than '..Said'. Prove '..Said' where nothing that the law and all that it calls make is longer than what came in: it says more and counts as full. Else prove '..UptoSaid'. A law counts once. -/
mutual
def uptoBulk {H : Type} : DataW H → Nat
  | .lit (.string bytes) => bytes.length + 1
  | .lit _ => 1
  | .nil => 1
  | .ptr d => uptoBulk d + 1
  | .slice elems spare => uptoBulkAll elems + uptoBulkAll spare + 1
  | .agg parts => uptoBulkAll parts + 1
  | .iface _ d => uptoBulk d + 1
  | .map entries => uptoBulkEntries entries + 1
  | .held _ => 1
def uptoBulkAll {H : Type} : List (DataW H) → Nat
  | [] => 0
  | d :: r => uptoBulk d + uptoBulkAll r
def uptoBulkEntries {H : Type} : List (Lit × DataW H) → Nat
  | [] => 0
  | x :: r => uptoBulkEntry x + uptoBulkEntries r
def uptoBulkEntry {H : Type} : Lit × DataW H → Nat
  | (.string bytes, d) => bytes.length + uptoBulk d + 1
  | (_, d) => uptoBulk d + 1
 end
def uptoSmall : (H : Type) → List (DataW H) → Bool := fun _ ds => decide (uptoBulkAll ds ≤ 1048576)
def OpenSpec.upto (s : _root_.Go.ChangeSpec) : _root_.Go.OpenSpec := { _root_.Go.OpenSpec.ofChange s with cond := some uptoSmall }

/-- 'laws.FnExactWhom', WHERE WHAT IT READS IS OF BULK AT MOST 1048576: true; the input reads as it did. -/
def fnExactWhomUptoRow : OpenClaim := { program := "yticdjfieofjcaaa", sum := "ab74a954a25e1e64be0d94b7a15ec5640c86d23ed5db9f74e0cdc944bb0cc4f4", func := "loop.example/g00236/laws.FnExactWhom", spec := "fnExactWhom", apart := false, narrowed := true }
def FnExactWhomUptoSaid : Prop := fnExactWhomUptoRow.holds Try.pinned (OpenSpec.upto fnExactWhomSpec)

/-- 'laws.FnWhom', WHERE WHAT IT READS IS OF BULK AT MOST 1048576: true; the input reads as it did. -/
def fnWhomUptoRow : OpenClaim := { program := "yticdjfieofjcaaa", sum := "ab74a954a25e1e64be0d94b7a15ec5640c86d23ed5db9f74e0cdc944bb0cc4f4", func := "loop.example/g00236/laws.FnWhom", spec := "fnWhom", apart := false, narrowed := true }
def FnWhomUptoSaid : Prop := fnWhomUptoRow.holds Try.pinned (OpenSpec.upto fnWhomSpec)

/-- 'laws.FnSends', WHERE WHAT IT READS IS OF BULK AT MOST 1048576: true; the input reads as it did. -/
def fnSendsUptoRow : OpenClaim := { program := "yticdjfieofjcaaa", sum := "ab74a954a25e1e64be0d94b7a15ec5640c86d23ed5db9f74e0cdc944bb0cc4f4", func := "loop.example/g00236/laws.FnSends", spec := "fnSends", unfollowed := true, recurses := true, apart := false, narrowed := true }
def FnSendsUptoSaid : Prop := fnSendsUptoRow.holds Try.pinned (OpenSpec.upto fnSendsSpec)

/-- 'laws.FnExactWorkerOk', WHERE WHAT IT READS IS OF BULK AT MOST 1048576: true; the input reads as it did. -/
def fnExactWorkerOkUptoRow : OpenClaim := { program := "yticdjfieofjcaaa", sum := "ab74a954a25e1e64be0d94b7a15ec5640c86d23ed5db9f74e0cdc944bb0cc4f4", func := "loop.example/g00236/laws.FnExactWorkerOk", spec := "fnExactWorkerOk", recurses := true, loops := true, apart := false, narrowed := true }
def FnExactWorkerOkUptoSaid : Prop := fnExactWorkerOkUptoRow.holds Try.pinned (OpenSpec.upto fnExactWorkerOkSpec)

/-- 'laws.FnExactSendsOf', WHERE WHAT IT READS IS OF BULK AT MOST 1048576: true; the input reads as it did. -/
def fnExactSendsOfUptoRow : OpenClaim := { program := "yticdjfieofjcaaa", sum := "ab74a954a25e1e64be0d94b7a15ec5640c86d23ed5db9f74e0cdc944bb0cc4f4", func := "loop.example/g00236/laws.FnExactSendsOf", spec := "fnExactSendsOf", recurses := true, loops := true, apart := false, narrowed := true }
def FnExactSendsOfUptoSaid : Prop := fnExactSendsOfUptoRow.holds Try.pinned (OpenSpec.upto fnExactSendsOfSpec)

/-- 'laws.FnExactNewestOf', WHERE WHAT IT READS IS OF BULK AT MOST 1048576: true; the input reads as it did. -/
def fnExactNewestOfUptoRow : OpenClaim := { program := "yticdjfieofjcaaa", sum := "ab74a954a25e1e64be0d94b7a15ec5640c86d23ed5db9f74e0cdc944bb0cc4f4", func := "loop.example/g00236/laws.FnExactNewestOf", spec := "fnExactNewestOf", unfollowed := true, recurses := true, loops := true, apart := false, narrowed := true }
def FnExactNewestOfUptoSaid : Prop := fnExactNewestOfUptoRow.holds Try.pinned (OpenSpec.upto fnExactNewestOfSpec)

/-- 'laws.FnExactPutWord', WHERE WHAT IT READS IS OF BULK AT MOST 1048576: true; the input reads as it did. -/
def fnExactPutWordUptoRow : OpenClaim := { program := "yticdjfieofjcaaa", sum := "ab74a954a25e1e64be0d94b7a15ec5640c86d23ed5db9f74e0cdc944bb0cc4f4", func := "loop.example/g00236/laws.FnExactPutWord", spec := "fnExactPutWord", recurses := true, loops := true, apart := false, narrowed := true }
def FnExactPutWordUptoSaid : Prop := fnExactPutWordUptoRow.holds Try.pinned (OpenSpec.upto fnExactPutWordSpec)

/-- 'laws.FnHit', WHERE WHAT IT READS IS OF BULK AT MOST 1048576: true; the input reads as it did. -/
def fnHitUptoRow : OpenClaim := { program := "yticdjfieofjcaaa", sum := "ab74a954a25e1e64be0d94b7a15ec5640c86d23ed5db9f74e0cdc944bb0cc4f4", func := "loop.example/g00236/laws.FnHit", spec := "fnHit", unfollowed := true, recurses := true, apart := false, narrowed := true }
def FnHitUptoSaid : Prop := fnHitUptoRow.holds Try.pinned (OpenSpec.upto fnHitSpec)

/-- 'laws.FnExactOverOk', WHERE WHAT IT READS IS OF BULK AT MOST 1048576: true; the input reads as it did. -/
def fnExactOverOkUptoRow : OpenClaim := { program := "yticdjfieofjcaaa", sum := "ab74a954a25e1e64be0d94b7a15ec5640c86d23ed5db9f74e0cdc944bb0cc4f4", func := "loop.example/g00236/laws.FnExactOverOk", spec := "fnExactOverOk", unfollowed := true, recurses := true, loops := true, apart := false, narrowed := true }
def FnExactOverOkUptoSaid : Prop := fnExactOverOkUptoRow.holds Try.pinned (OpenSpec.upto fnExactOverOkSpec)

/-- 'laws.FnOvers', WHERE WHAT IT READS IS OF BULK AT MOST 1048576: true; the input reads as it did. -/
def fnOversUptoRow : OpenClaim := { program := "yticdjfieofjcaaa", sum := "ab74a954a25e1e64be0d94b7a15ec5640c86d23ed5db9f74e0cdc944bb0cc4f4", func := "loop.example/g00236/laws.FnOvers", spec := "fnOvers", unfollowed := true, recurses := true, apart := false, narrowed := true }
def FnOversUptoSaid : Prop := fnOversUptoRow.holds Try.pinned (OpenSpec.upto fnOversSpec)

end Rows
end Go.Proofs.Yticdjfieofjcaaa
