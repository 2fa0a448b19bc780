/-
  NARROWER THAN 'FOR EVERY INPUT', by the rows' own cells (each row's printed sentence says how): FnExactFill: loops · FnExactPutCode: loops · FnExactRename: loops · FnExactPurgeCode: loops.
  DERIVED. THE GIVEN ROWS OF THIS SEAT. 8 by the template 'for every input the law returns true; each argument reads behind the call as it read before'; 0 by the template 'total and deterministic' (their statements: YtjfgchodolnmcaaTotals.lean).
  GIVEN WITH THE SEED: the statements are not yours to turn. If you find one false, say at which input.
  Laid BY PROGRAM, IN A SANDBOX (cutbox-rows.mjs): the forced cells as the released guide's own fill.sh prints them over the translation 3c5da9b85907019e… (all of the seat's roots in one cut). By AI agents, Wed Nov 11 2026. No macro, syntax, notation, axiom, sorry.
-/
import Derived.Test.YtjfgchodolnmcaaChecked
import GoSem.Claim
import GoSem.ClaimJoined
import GoSem.ClaimMapViews
import Derived.JoinedTies
import Derived.KernelRfl
namespace Go.Proofs.Ytjfgchodolnmcaa
/- THE CELL 'sum', in the pinned program and in every row, IS THE sha256 OF THE DUMP (.gsa) THAT YtjfgchodolnmcaaProg.lean LOADS. Nothing in Lean hashes anything: it is a label: what it is worth is what the hold of that sum in a sandbox is worth. -/
noncomputable def Try.pinned : Pinned := { name := "ytjfgchodolnmcaa", sum := "3c5da9b85907019ec995254c6e478f93c826945583d6c8311dbcdc492beb492e", checked := Try.checked }
namespace Rows
def none {H : Type} : Left H := { results := [], args := [] }

/-- 'laws.FnExactFill': WHATEVER THE INPUT: true; the input reads as it did. -/
def fnExactFillSpec : ChangeSpec := { name := "fnExactFill", fn := fun _ => fun
  | [d1, d2] => { results := [.lit (.bool true)], args := [d1, d2] }
  | _ => none }
def fnExactFillRow : OpenClaim := { program := "ytjfgchodolnmcaa", sum := "3c5da9b85907019ec995254c6e478f93c826945583d6c8311dbcdc492beb492e", func := "loop.example/g00236/laws.FnExactFill", spec := "fnExactFill", recurses := true, loops := true, apart := false }
def FnExactFillSaid : Prop := fnExactFillRow.holds Try.pinned (OpenSpec.ofChange fnExactFillSpec)

/-- ITS FALSE NEIGHBOUR: 'it returns false'. Refute it at one input. -/
def fnExactFillWrong : ChangeSpec := { name := "fnExactFill", fn := fun _ => fun
  | [d1, d2] => { results := [.lit (.bool false)], args := [d1, d2] }
  | _ => none }
def FnExactFillWrongFalsely : Prop := fnExactFillRow.holds Try.pinned (OpenSpec.ofChange fnExactFillWrong)

/-- 'laws.FnFilled': WHATEVER THE INPUT: true; the input reads as it did. -/
def fnFilledSpec : ChangeSpec := { name := "fnFilled", fn := fun _ => fun
  | [d] => { results := [.lit (.bool true)], args := [d] }
  | _ => none }
def fnFilledRow : OpenClaim := { program := "ytjfgchodolnmcaa", sum := "3c5da9b85907019ec995254c6e478f93c826945583d6c8311dbcdc492beb492e", func := "loop.example/g00236/laws.FnFilled", spec := "fnFilled", unfollowed := true, recurses := true, apart := false }
def FnFilledSaid : Prop := fnFilledRow.holds Try.pinned (OpenSpec.ofChange fnFilledSpec)

/-- ITS FALSE NEIGHBOUR: 'it returns false'. Refute it at one input. -/
def fnFilledWrong : ChangeSpec := { name := "fnFilled", fn := fun _ => fun
  | [d] => { results := [.lit (.bool false)], args := [d] }
  | _ => none }
def FnFilledWrongFalsely : Prop := fnFilledRow.holds Try.pinned (OpenSpec.ofChange fnFilledWrong)

/-- 'laws.FnExactPutCode': WHATEVER THE INPUT: true; the input reads as it did. -/
def fnExactPutCodeSpec : ChangeSpec := { name := "fnExactPutCode", fn := fun _ => fun
  | [d] => { results := [.lit (.bool true)], args := [d] }
  | _ => none }
def fnExactPutCodeRow : OpenClaim := { program := "ytjfgchodolnmcaa", sum := "3c5da9b85907019ec995254c6e478f93c826945583d6c8311dbcdc492beb492e", func := "loop.example/g00236/laws.FnExactPutCode", spec := "fnExactPutCode", unfollowed := true, recurses := true, loops := true, apart := false }
def FnExactPutCodeSaid : Prop := fnExactPutCodeRow.holds Try.pinned (OpenSpec.ofChange fnExactPutCodeSpec)

/-- ITS FALSE NEIGHBOUR: 'it returns false'. Refute it at one input. -/
def fnExactPutCodeWrong : ChangeSpec := { name := "fnExactPutCode", fn := fun _ => fun
  | [d] => { results := [.lit (.bool false)], args := [d] }
  | _ => none }
def FnExactPutCodeWrongFalsely : Prop := fnExactPutCodeRow.holds Try.pinned (OpenSpec.ofChange fnExactPutCodeWrong)

/-- 'laws.FnCode': WHATEVER THE INPUT: true; the input reads as it did. -/
def fnCodeSpec : ChangeSpec := { name := "fnCode", fn := fun _ => fun
  | [d] => { results := [.lit (.bool true)], args := [d] }
  | _ => none }
def fnCodeRow : OpenClaim := { program := "ytjfgchodolnmcaa", sum := "3c5da9b85907019ec995254c6e478f93c826945583d6c8311dbcdc492beb492e", func := "loop.example/g00236/laws.FnCode", spec := "fnCode", unfollowed := true, recurses := true, apart := false }
def FnCodeSaid : Prop := fnCodeRow.holds Try.pinned (OpenSpec.ofChange fnCodeSpec)

/-- ITS FALSE NEIGHBOUR: 'it returns false'. Refute it at one input. -/
def fnCodeWrong : ChangeSpec := { name := "fnCode", fn := fun _ => fun
  | [d] => { results := [.lit (.bool false)], args := [d] }
  | _ => none }
def FnCodeWrongFalsely : Prop := fnCodeRow.holds Try.pinned (OpenSpec.ofChange fnCodeWrong)

/-- 'laws.FnExactRename': WHATEVER THE INPUT: true; the input reads as it did. -/
def fnExactRenameSpec : ChangeSpec := { name := "fnExactRename", fn := fun _ => fun
  | [d1, d2, d3] => { results := [.lit (.bool true)], args := [d1, d2, d3] }
  | _ => none }
def fnExactRenameRow : OpenClaim := { program := "ytjfgchodolnmcaa", sum := "3c5da9b85907019ec995254c6e478f93c826945583d6c8311dbcdc492beb492e", func := "loop.example/g00236/laws.FnExactRename", spec := "fnExactRename", unfollowed := true, recurses := true, loops := true, apart := false }
def FnExactRenameSaid : Prop := fnExactRenameRow.holds Try.pinned (OpenSpec.ofChange fnExactRenameSpec)

/-- ITS FALSE NEIGHBOUR: 'it returns false'. Refute it at one input. -/
def fnExactRenameWrong : ChangeSpec := { name := "fnExactRename", fn := fun _ => fun
  | [d1, d2, d3] => { results := [.lit (.bool false)], args := [d1, d2, d3] }
  | _ => none }
def FnExactRenameWrongFalsely : Prop := fnExactRenameRow.holds Try.pinned (OpenSpec.ofChange fnExactRenameWrong)

/-- 'laws.FnExactGetCode': WHATEVER THE INPUT: true; the input reads as it did. -/
def fnExactGetCodeSpec : ChangeSpec := { name := "fnExactGetCode", fn := fun _ => fun
  | [d] => { results := [.lit (.bool true)], args := [d] }
  | _ => none }
def fnExactGetCodeRow : OpenClaim := { program := "ytjfgchodolnmcaa", sum := "3c5da9b85907019ec995254c6e478f93c826945583d6c8311dbcdc492beb492e", func := "loop.example/g00236/laws.FnExactGetCode", spec := "fnExactGetCode", unfollowed := true, recurses := true, apart := false }
def FnExactGetCodeSaid : Prop := fnExactGetCodeRow.holds Try.pinned (OpenSpec.ofChange fnExactGetCodeSpec)

/-- ITS FALSE NEIGHBOUR: 'it returns false'. Refute it at one input. -/
def fnExactGetCodeWrong : ChangeSpec := { name := "fnExactGetCode", fn := fun _ => fun
  | [d] => { results := [.lit (.bool false)], args := [d] }
  | _ => none }
def FnExactGetCodeWrongFalsely : Prop := fnExactGetCodeRow.holds Try.pinned (OpenSpec.ofChange fnExactGetCodeWrong)

/-- 'laws.FnExactPurgeCode': WHATEVER THE INPUT: true; the input reads as it did. -/
def fnExactPurgeCodeSpec : ChangeSpec := { name := "fnExactPurgeCode", fn := fun _ => fun
  | [d1, d2] => { results := [.lit (.bool true)], args := [d1, d2] }
  | _ => none }
def fnExactPurgeCodeRow : OpenClaim := { program := "ytjfgchodolnmcaa", sum := "3c5da9b85907019ec995254c6e478f93c826945583d6c8311dbcdc492beb492e", func := "loop.example/g00236/laws.FnExactPurgeCode", spec := "fnExactPurgeCode", unfollowed := true, recurses := true, loops := true, apart := false }
def FnExactPurgeCodeSaid : Prop := fnExactPurgeCodeRow.holds Try.pinned (OpenSpec.ofChange fnExactPurgeCodeSpec)

/-- ITS FALSE NEIGHBOUR: 'it returns false'. Refute it at one input. -/
def fnExactPurgeCodeWrong : ChangeSpec := { name := "fnExactPurgeCode", fn := fun _ => fun
  | [d1, d2] => { results := [.lit (.bool false)], args := [d1, d2] }
  | _ => none }
def FnExactPurgeCodeWrongFalsely : Prop := fnExactPurgeCodeRow.holds Try.pinned (OpenSpec.ofChange fnExactPurgeCodeWrong)

/-- 'laws.FnReached': WHATEVER THE INPUT: true; the input reads as it did. -/
def fnReachedSpec : ChangeSpec := { name := "fnReached", fn := fun _ => fun
  | [d] => { results := [.lit (.bool true)], args := [d] }
  | _ => none }
def fnReachedRow : OpenClaim := { program := "ytjfgchodolnmcaa", sum := "3c5da9b85907019ec995254c6e478f93c826945583d6c8311dbcdc492beb492e", func := "loop.example/g00236/laws.FnReached", spec := "fnReached", unfollowed := true, recurses := true, apart := false }
def FnReachedSaid : Prop := fnReachedRow.holds Try.pinned (OpenSpec.ofChange fnReachedSpec)

/-- ITS FALSE NEIGHBOUR: 'it returns false'. Refute it at one input. -/
def fnReachedWrong : ChangeSpec := { name := "fnReached", fn := fun _ => fun
  | [d] => { results := [.lit (.bool false)], args := [d] }
  | _ => none }
def FnReachedWrongFalsely : Prop := fnReachedRow.holds Try.pinned (OpenSpec.ofChange fnReachedWrong)

/- THE SECOND FORM. 'bulk': how many values and letters a reading holds, each counted each time it is reached (what is shared counts as often as it is met; a slice's spare places count too). A statement '..UptoSaid' is the law's where the arguments, and the package variables that the reading takes, are together of bulk at most 1048576: NARROWER than '..Said'. Prove '..Said' where nothing that the law and all that it calls make is longer than what came in: it says more and counts as full. Else prove '..UptoSaid'. A law counts once. -/
mutual
def uptoBulk {H : Type} : DataW H → Nat
  | .lit (.string bytes) => bytes.length + 1
  | .lit _ => 1
  | .nil => 1
  | .ptr d => uptoBulk d + 1
  | .slice elems spare => uptoBulkAll elems + uptoBulkAll spare + 1
  | .agg parts => uptoBulkAll parts + 1
  | .iface _ d => uptoBulk d + 1
  | .map entries => uptoBulkEntries entries + 1
  | .held _ => 1
def uptoBulkAll {H : Type} : List (DataW H) → Nat
  | [] => 0
  | d :: r => uptoBulk d + uptoBulkAll r
def uptoBulkEntries {H : Type} : List (Lit × DataW H) → Nat
  | [] => 0
  | x :: r => uptoBulkEntry x + uptoBulkEntries r
def uptoBulkEntry {H : Type} : Lit × DataW H → Nat
  | (.string bytes, d) => bytes.length + uptoBulk d + 1
  | (_, d) => uptoBulk d + 1
 end
def uptoSmall : (H : Type) → List (DataW H) → Bool := fun _ ds => decide (uptoBulkAll ds ≤ 1048576)
def OpenSpec.upto (s : _root_.Go.ChangeSpec) : _root_.Go.OpenSpec := { _root_.Go.OpenSpec.ofChange s with cond := some uptoSmall }

/-- 'laws.FnExactFill', WHERE WHAT IT READS IS OF BULK AT MOST 1048576: true; the input reads as it did. -/
def fnExactFillUptoRow : OpenClaim := { program := "ytjfgchodolnmcaa", sum := "3c5da9b85907019ec995254c6e478f93c826945583d6c8311dbcdc492beb492e", func := "loop.example/g00236/laws.FnExactFill", spec := "fnExactFill", recurses := true, loops := true, apart := false, narrowed := true }
def FnExactFillUptoSaid : Prop := fnExactFillUptoRow.holds Try.pinned (OpenSpec.upto fnExactFillSpec)

/-- 'laws.FnFilled', WHERE WHAT IT READS IS OF BULK AT MOST 1048576: true; the input reads as it did. -/
def fnFilledUptoRow : OpenClaim := { program := "ytjfgchodolnmcaa", sum := "3c5da9b85907019ec995254c6e478f93c826945583d6c8311dbcdc492beb492e", func := "loop.example/g00236/laws.FnFilled", spec := "fnFilled", unfollowed := true, recurses := true, apart := false, narrowed := true }
def FnFilledUptoSaid : Prop := fnFilledUptoRow.holds Try.pinned (OpenSpec.upto fnFilledSpec)

/-- 'laws.FnExactPutCode', WHERE WHAT IT READS IS OF BULK AT MOST 1048576: true; the input reads as it did. -/
def fnExactPutCodeUptoRow : OpenClaim := { program := "ytjfgchodolnmcaa", sum := "3c5da9b85907019ec995254c6e478f93c826945583d6c8311dbcdc492beb492e", func := "loop.example/g00236/laws.FnExactPutCode", spec := "fnExactPutCode", unfollowed := true, recurses := true, loops := true, apart := false, narrowed := true }
def FnExactPutCodeUptoSaid : Prop := fnExactPutCodeUptoRow.holds Try.pinned (OpenSpec.upto fnExactPutCodeSpec)

/-- 'laws.FnCode', WHERE WHAT IT READS IS OF BULK AT MOST 1048576: true; the input reads as it did. -/
def fnCodeUptoRow : OpenClaim := { program := "ytjfgchodolnmcaa", sum := "3c5da9b85907019ec995254c6e478f93c826945583d6c8311dbcdc492beb492e", func := "loop.example/g00236/laws.FnCode", spec := "fnCode", unfollowed := true, recurses := true, apart := false, narrowed := true }
def FnCodeUptoSaid : Prop := fnCodeUptoRow.holds Try.pinned (OpenSpec.upto fnCodeSpec)

/-- 'laws.FnExactRename', WHERE WHAT IT READS IS OF BULK AT MOST 1048576: true; the input reads as it did. -/
def fnExactRenameUptoRow : OpenClaim := { program := "ytjfgchodolnmcaa", sum := "3c5da9b85907019ec995254c6e478f93c826945583d6c8311dbcdc492beb492e", func := "loop.example/g00236/laws.FnExactRename", spec := "fnExactRename", unfollowed := true, recurses := true, loops := true, apart := false, narrowed := true }
def FnExactRenameUptoSaid : Prop := fnExactRenameUptoRow.holds Try.pinned (OpenSpec.upto fnExactRenameSpec)

/-- 'laws.FnExactGetCode', WHERE WHAT IT READS IS OF BULK AT MOST 1048576: true; the input reads as it did. -/
def fnExactGetCodeUptoRow : OpenClaim := { program := "ytjfgchodolnmcaa", sum := "3c5da9b85907019ec995254c6e478f93c826945583d6c8311dbcdc492beb492e", func := "loop.example/g00236/laws.FnExactGetCode", spec := "fnExactGetCode", unfollowed := true, recurses := true, apart := false, narrowed := true }
def FnExactGetCodeUptoSaid : Prop := fnExactGetCodeUptoRow.holds Try.pinned (OpenSpec.upto fnExactGetCodeSpec)

/-- 'laws.FnExactPurgeCode', WHERE WHAT IT READS IS OF BULK AT MOST 1048576: true; the input reads as it did. -/
def fnExactPurgeCodeUptoRow : OpenClaim := { program := "ytjfgchodolnmcaa", sum := "3c5da9b85907019ec995254c6e478f93c826945583d6c8311dbcdc492beb492e", func := "loop.example/g00236/laws.FnExactPurgeCode", spec := "fnExactPurgeCode", unfollowed := true, recurses := true, loops := true, apart := false, narrowed := true }
def FnExactPurgeCodeUptoSaid : Prop := fnExactPurgeCodeUptoRow.holds Try.pinned (OpenSpec.upto fnExactPurgeCodeSpec)

/-- 'laws.FnReached', WHERE WHAT IT READS IS OF BULK AT MOST 1048576: true; the input reads as it did. -/
def fnReachedUptoRow : OpenClaim := { program := "ytjfgchodolnmcaa", sum := "3c5da9b85907019ec995254c6e478f93c826945583d6c8311dbcdc492beb492e", func := "loop.example/g00236/laws.FnReached", spec := "fnReached", unfollowed := true, recurses := true, apart := false, narrowed := true }
def FnReachedUptoSaid : Prop := fnReachedUptoRow.holds Try.pinned (OpenSpec.upto fnReachedSpec)

end Rows
end Go.Proofs.Ytjfgchodolnmcaa
