/-
  NARROWER THAN 'FOR EVERY INPUT', by the rows' own cells (each row's printed sentence says how): FnExactOversOk: loops · FnExactCodeOf: loops · FnExactModuleOk: loops · FnExactTake: loops · FnExactMatch: loops · FnExactTableOk: loops.
  DERIVED. THE GIVEN ROWS OF THIS SEAT. 9 by the template 'for every input the law returns true; each argument reads behind the call as it read before'; 0 by the template 'total and deterministic' (their statements: YtgeomhdbckjkcaaTotals.lean).
  GIVEN WITH THE SEED: the statements are not yours to turn. If you find one false, say at which input.
  Laid BY PROGRAM, IN A SANDBOX (cutbox-rows.mjs): the forced cells as the released guide's own fill.sh prints them over the translation 20dd1cb7997ccf2d… (all of the seat's roots in one cut). By AI agents, Wed Nov 11 2026. No macro, syntax, notation, axiom, sorry.
-/
import Derived.Test.YtgeomhdbckjkcaaChecked
import GoSem.Claim
import GoSem.ClaimJoined
import GoSem.ClaimMapViews
import Derived.JoinedTies
import Derived.KernelRfl
namespace Go.Proofs.Ytgeomhdbckjkcaa
/- THE CELL 'sum', in the pinned program and in every row, IS THE sha256 OF THE DUMP (.gsa) THAT YtgeomhdbckjkcaaProg.lean LOADS. Nothing in Lean hashes anything: it is a label: what it is worth is what the hold of that sum in a sandbox is worth. -/
noncomputable def Try.pinned : Pinned := { name := "ytgeomhdbckjkcaa", sum := "20dd1cb7997ccf2da6e248004c8f8e449279bbf22cfe4b48d9f17d56799b33e0", checked := Try.checked }
namespace Rows
def none {H : Type} : Left H := { results := [], args := [] }

/-- 'laws.FnExactOversOk': WHATEVER THE INPUT: true; the input reads as it did. -/
def fnExactOversOkSpec : ChangeSpec := { name := "fnExactOversOk", fn := fun _ => fun
  | [d] => { results := [.lit (.bool true)], args := [d] }
  | _ => none }
def fnExactOversOkRow : OpenClaim := { program := "ytgeomhdbckjkcaa", sum := "20dd1cb7997ccf2da6e248004c8f8e449279bbf22cfe4b48d9f17d56799b33e0", func := "loop.example/g00236/laws.FnExactOversOk", spec := "fnExactOversOk", unfollowed := true, recurses := true, loops := true, apart := false }
def FnExactOversOkSaid : Prop := fnExactOversOkRow.holds Try.pinned (OpenSpec.ofChange fnExactOversOkSpec)

/-- ITS FALSE NEIGHBOUR: 'it returns false'. Refute it at one input. -/
def fnExactOversOkWrong : ChangeSpec := { name := "fnExactOversOk", fn := fun _ => fun
  | [d] => { results := [.lit (.bool false)], args := [d] }
  | _ => none }
def FnExactOversOkWrongFalsely : Prop := fnExactOversOkRow.holds Try.pinned (OpenSpec.ofChange fnExactOversOkWrong)

/-- 'laws.FnExactCodeOf': WHATEVER THE INPUT: true; the input reads as it did. -/
def fnExactCodeOfSpec : ChangeSpec := { name := "fnExactCodeOf", fn := fun _ => fun
  | [d1, d2, d3] => { results := [.lit (.bool true)], args := [d1, d2, d3] }
  | _ => none }
def fnExactCodeOfRow : OpenClaim := { program := "ytgeomhdbckjkcaa", sum := "20dd1cb7997ccf2da6e248004c8f8e449279bbf22cfe4b48d9f17d56799b33e0", func := "loop.example/g00236/laws.FnExactCodeOf", spec := "fnExactCodeOf", unfollowed := true, recurses := true, loops := true, apart := false }
def FnExactCodeOfSaid : Prop := fnExactCodeOfRow.holds Try.pinned (OpenSpec.ofChange fnExactCodeOfSpec)

/-- ITS FALSE NEIGHBOUR: 'it returns false'. Refute it at one input. -/
def fnExactCodeOfWrong : ChangeSpec := { name := "fnExactCodeOf", fn := fun _ => fun
  | [d1, d2, d3] => { results := [.lit (.bool false)], args := [d1, d2, d3] }
  | _ => none }
def FnExactCodeOfWrongFalsely : Prop := fnExactCodeOfRow.holds Try.pinned (OpenSpec.ofChange fnExactCodeOfWrong)

/-- 'laws.FnExactModuleOk': WHATEVER THE INPUT: true; the input reads as it did. -/
def fnExactModuleOkSpec : ChangeSpec := { name := "fnExactModuleOk", fn := fun _ => fun
  | [d] => { results := [.lit (.bool true)], args := [d] }
  | _ => none }
def fnExactModuleOkRow : OpenClaim := { program := "ytgeomhdbckjkcaa", sum := "20dd1cb7997ccf2da6e248004c8f8e449279bbf22cfe4b48d9f17d56799b33e0", func := "loop.example/g00236/laws.FnExactModuleOk", spec := "fnExactModuleOk", unfollowed := true, recurses := true, loops := true, apart := false }
def FnExactModuleOkSaid : Prop := fnExactModuleOkRow.holds Try.pinned (OpenSpec.ofChange fnExactModuleOkSpec)

/-- ITS FALSE NEIGHBOUR: 'it returns false'. Refute it at one input. -/
def fnExactModuleOkWrong : ChangeSpec := { name := "fnExactModuleOk", fn := fun _ => fun
  | [d] => { results := [.lit (.bool false)], args := [d] }
  | _ => none }
def FnExactModuleOkWrongFalsely : Prop := fnExactModuleOkRow.holds Try.pinned (OpenSpec.ofChange fnExactModuleOkWrong)

/-- 'laws.FnExactTake': WHATEVER THE INPUT: true; the input reads as it did. -/
def fnExactTakeSpec : ChangeSpec := { name := "fnExactTake", fn := fun _ => fun
  | [d1, d2] => { results := [.lit (.bool true)], args := [d1, d2] }
  | _ => none }
def fnExactTakeRow : OpenClaim := { program := "ytgeomhdbckjkcaa", sum := "20dd1cb7997ccf2da6e248004c8f8e449279bbf22cfe4b48d9f17d56799b33e0", func := "loop.example/g00236/laws.FnExactTake", spec := "fnExactTake", recurses := true, loops := true, apart := false }
def FnExactTakeSaid : Prop := fnExactTakeRow.holds Try.pinned (OpenSpec.ofChange fnExactTakeSpec)

/-- ITS FALSE NEIGHBOUR: 'it returns false'. Refute it at one input. -/
def fnExactTakeWrong : ChangeSpec := { name := "fnExactTake", fn := fun _ => fun
  | [d1, d2] => { results := [.lit (.bool false)], args := [d1, d2] }
  | _ => none }
def FnExactTakeWrongFalsely : Prop := fnExactTakeRow.holds Try.pinned (OpenSpec.ofChange fnExactTakeWrong)

/-- 'laws.FnTaken': WHATEVER THE INPUT: true; the input reads as it did. -/
def fnTakenSpec : ChangeSpec := { name := "fnTaken", fn := fun _ => fun
  | [d] => { results := [.lit (.bool true)], args := [d] }
  | _ => none }
def fnTakenRow : OpenClaim := { program := "ytgeomhdbckjkcaa", sum := "20dd1cb7997ccf2da6e248004c8f8e449279bbf22cfe4b48d9f17d56799b33e0", func := "loop.example/g00236/laws.FnTaken", spec := "fnTaken", unfollowed := true, recurses := true, apart := false }
def FnTakenSaid : Prop := fnTakenRow.holds Try.pinned (OpenSpec.ofChange fnTakenSpec)

/-- ITS FALSE NEIGHBOUR: 'it returns false'. Refute it at one input. -/
def fnTakenWrong : ChangeSpec := { name := "fnTaken", fn := fun _ => fun
  | [d] => { results := [.lit (.bool false)], args := [d] }
  | _ => none }
def FnTakenWrongFalsely : Prop := fnTakenRow.holds Try.pinned (OpenSpec.ofChange fnTakenWrong)

/-- 'laws.FnExactMatch': WHATEVER THE INPUT: true; the input reads as it did. -/
def fnExactMatchSpec : ChangeSpec := { name := "fnExactMatch", fn := fun _ => fun
  | [d1, d2] => { results := [.lit (.bool true)], args := [d1, d2] }
  | _ => none }
def fnExactMatchRow : OpenClaim := { program := "ytgeomhdbckjkcaa", sum := "20dd1cb7997ccf2da6e248004c8f8e449279bbf22cfe4b48d9f17d56799b33e0", func := "loop.example/g00236/laws.FnExactMatch", spec := "fnExactMatch", recurses := true, loops := true, apart := false }
def FnExactMatchSaid : Prop := fnExactMatchRow.holds Try.pinned (OpenSpec.ofChange fnExactMatchSpec)

/-- ITS FALSE NEIGHBOUR: 'it returns false'. Refute it at one input. -/
def fnExactMatchWrong : ChangeSpec := { name := "fnExactMatch", fn := fun _ => fun
  | [d1, d2] => { results := [.lit (.bool false)], args := [d1, d2] }
  | _ => none }
def FnExactMatchWrongFalsely : Prop := fnExactMatchRow.holds Try.pinned (OpenSpec.ofChange fnExactMatchWrong)

/-- 'laws.FnExactTableOk': WHATEVER THE INPUT: true; the input reads as it did. -/
def fnExactTableOkSpec : ChangeSpec := { name := "fnExactTableOk", fn := fun _ => fun
  | [d] => { results := [.lit (.bool true)], args := [d] }
  | _ => none }
def fnExactTableOkRow : OpenClaim := { program := "ytgeomhdbckjkcaa", sum := "20dd1cb7997ccf2da6e248004c8f8e449279bbf22cfe4b48d9f17d56799b33e0", func := "loop.example/g00236/laws.FnExactTableOk", spec := "fnExactTableOk", unfollowed := true, recurses := true, loops := true, apart := false }
def FnExactTableOkSaid : Prop := fnExactTableOkRow.holds Try.pinned (OpenSpec.ofChange fnExactTableOkSpec)

/-- ITS FALSE NEIGHBOUR: 'it returns false'. Refute it at one input. -/
def fnExactTableOkWrong : ChangeSpec := { name := "fnExactTableOk", fn := fun _ => fun
  | [d] => { results := [.lit (.bool false)], args := [d] }
  | _ => none }
def FnExactTableOkWrongFalsely : Prop := fnExactTableOkRow.holds Try.pinned (OpenSpec.ofChange fnExactTableOkWrong)

/-- 'laws.FnMatched': WHATEVER THE INPUT: true; the input reads as it did. -/
def fnMatchedSpec : ChangeSpec := { name := "fnMatched", fn := fun _ => fun
  | [d] => { results := [.lit (.bool true)], args := [d] }
  | _ => none }
def fnMatchedRow : OpenClaim := { program := "ytgeomhdbckjkcaa", sum := "20dd1cb7997ccf2da6e248004c8f8e449279bbf22cfe4b48d9f17d56799b33e0", func := "loop.example/g00236/laws.FnMatched", spec := "fnMatched", unfollowed := true, recurses := true, apart := false }
def FnMatchedSaid : Prop := fnMatchedRow.holds Try.pinned (OpenSpec.ofChange fnMatchedSpec)

/-- ITS FALSE NEIGHBOUR: 'it returns false'. Refute it at one input. -/
def fnMatchedWrong : ChangeSpec := { name := "fnMatched", fn := fun _ => fun
  | [d] => { results := [.lit (.bool false)], args := [d] }
  | _ => none }
def FnMatchedWrongFalsely : Prop := fnMatchedRow.holds Try.pinned (OpenSpec.ofChange fnMatchedWrong)

/-- 'laws.FnSameCode': WHATEVER THE INPUT: true; the input reads as it did. -/
def fnSameCodeSpec : ChangeSpec := { name := "fnSameCode", fn := fun _ => fun
  | [d] => { results := [.lit (.bool true)], args := [d] }
  | _ => none }
def fnSameCodeRow : OpenClaim := { program := "ytgeomhdbckjkcaa", sum := "20dd1cb7997ccf2da6e248004c8f8e449279bbf22cfe4b48d9f17d56799b33e0", func := "loop.example/g00236/laws.FnSameCode", spec := "fnSameCode", unfollowed := true, recurses := true, apart := false }
def FnSameCodeSaid : Prop := fnSameCodeRow.holds Try.pinned (OpenSpec.ofChange fnSameCodeSpec)

/-- ITS FALSE NEIGHBOUR: 'it returns false'. Refute it at one input. -/
def fnSameCodeWrong : ChangeSpec := { name := "fnSameCode", fn := fun _ => fun
  | [d] => { results := [.lit (.bool false)], args := [d] }
  | _ => none }
def FnSameCodeWrongFalsely : Prop := fnSameCodeRow.holds Try.pinned (OpenSpec.ofChange fnSameCodeWrong)

/- THE SECOND FORM. 'bulk': how many values and letters a reading holds, each counted each time it is reached (what is shared counts as often as it is met; a slice's spare places count too). A statement '..UptoSaid' is the law's where the arguments, and the package variables that the reading takes, are together of bulk at most 1048576: NARROWER than '..Said'. Prove '..Said' where nothing that the law and all that it calls make is longer than what came in: it says more and counts as full. Else prove '..UptoSaid'. A law counts once. -/
mutual
def uptoBulk {H : Type} : DataW H → Nat
  | .lit (.string bytes) => bytes.length + 1
  | .lit _ => 1
  | .nil => 1
  | .ptr d => uptoBulk d + 1
  | .slice elems spare => uptoBulkAll elems + uptoBulkAll spare + 1
  | .agg parts => uptoBulkAll parts + 1
  | .iface _ d => uptoBulk d + 1
  | .map entries => uptoBulkEntries entries + 1
  | .held _ => 1
def uptoBulkAll {H : Type} : List (DataW H) → Nat
  | [] => 0
  | d :: r => uptoBulk d + uptoBulkAll r
def uptoBulkEntries {H : Type} : List (Lit × DataW H) → Nat
  | [] => 0
  | x :: r => uptoBulkEntry x + uptoBulkEntries r
def uptoBulkEntry {H : Type} : Lit × DataW H → Nat
  | (.string bytes, d) => bytes.length + uptoBulk d + 1
  | (_, d) => uptoBulk d + 1
 end
def uptoSmall : (H : Type) → List (DataW H) → Bool := fun _ ds => decide (uptoBulkAll ds ≤ 1048576)
def OpenSpec.upto (s : _root_.Go.ChangeSpec) : _root_.Go.OpenSpec := { _root_.Go.OpenSpec.ofChange s with cond := some uptoSmall }

/-- 'laws.FnExactOversOk', WHERE WHAT IT READS IS OF BULK AT MOST 1048576: true; the input reads as it did. -/
def fnExactOversOkUptoRow : OpenClaim := { program := "ytgeomhdbckjkcaa", sum := "20dd1cb7997ccf2da6e248004c8f8e449279bbf22cfe4b48d9f17d56799b33e0", func := "loop.example/g00236/laws.FnExactOversOk", spec := "fnExactOversOk", unfollowed := true, recurses := true, loops := true, apart := false, narrowed := true }
def FnExactOversOkUptoSaid : Prop := fnExactOversOkUptoRow.holds Try.pinned (OpenSpec.upto fnExactOversOkSpec)

/-- 'laws.FnExactCodeOf', WHERE WHAT IT READS IS OF BULK AT MOST 1048576: true; the input reads as it did. -/
def fnExactCodeOfUptoRow : OpenClaim := { program := "ytgeomhdbckjkcaa", sum := "20dd1cb7997ccf2da6e248004c8f8e449279bbf22cfe4b48d9f17d56799b33e0", func := "loop.example/g00236/laws.FnExactCodeOf", spec := "fnExactCodeOf", unfollowed := true, recurses := true, loops := true, apart := false, narrowed := true }
def FnExactCodeOfUptoSaid : Prop := fnExactCodeOfUptoRow.holds Try.pinned (OpenSpec.upto fnExactCodeOfSpec)

/-- 'laws.FnExactModuleOk', WHERE WHAT IT READS IS OF BULK AT MOST 1048576: true; the input reads as it did. -/
def fnExactModuleOkUptoRow : OpenClaim := { program := "ytgeomhdbckjkcaa", sum := "20dd1cb7997ccf2da6e248004c8f8e449279bbf22cfe4b48d9f17d56799b33e0", func := "loop.example/g00236/laws.FnExactModuleOk", spec := "fnExactModuleOk", unfollowed := true, recurses := true, loops := true, apart := false, narrowed := true }
def FnExactModuleOkUptoSaid : Prop := fnExactModuleOkUptoRow.holds Try.pinned (OpenSpec.upto fnExactModuleOkSpec)

/-- 'laws.FnExactTake', WHERE WHAT IT READS IS OF BULK AT MOST 1048576: true; the input reads as it did. -/
def fnExactTakeUptoRow : OpenClaim := { program := "ytgeomhdbckjkcaa", sum := "20dd1cb7997ccf2da6e248004c8f8e449279bbf22cfe4b48d9f17d56799b33e0", func := "loop.example/g00236/laws.FnExactTake", spec := "fnExactTake", recurses := true, loops := true, apart := false, narrowed := true }
def FnExactTakeUptoSaid : Prop := fnExactTakeUptoRow.holds Try.pinned (OpenSpec.upto fnExactTakeSpec)

/-- 'laws.FnTaken', WHERE WHAT IT READS IS OF BULK AT MOST 1048576: true; the input reads as it did. -/
def fnTakenUptoRow : OpenClaim := { program := "ytgeomhdbckjkcaa", sum := "20dd1cb7997ccf2da6e248004c8f8e449279bbf22cfe4b48d9f17d56799b33e0", func := "loop.example/g00236/laws.FnTaken", spec := "fnTaken", unfollowed := true, recurses := true, apart := false, narrowed := true }
def FnTakenUptoSaid : Prop := fnTakenUptoRow.holds Try.pinned (OpenSpec.upto fnTakenSpec)

/-- 'laws.FnExactMatch', WHERE WHAT IT READS IS OF BULK AT MOST 1048576: true; the input reads as it did. -/
def fnExactMatchUptoRow : OpenClaim := { program := "ytgeomhdbckjkcaa", sum := "20dd1cb7997ccf2da6e248004c8f8e449279bbf22cfe4b48d9f17d56799b33e0", func := "loop.example/g00236/laws.FnExactMatch", spec := "fnExactMatch", recurses := true, loops := true, apart := false, narrowed := true }
def FnExactMatchUptoSaid : Prop := fnExactMatchUptoRow.holds Try.pinned (OpenSpec.upto fnExactMatchSpec)

/-- 'laws.FnExactTableOk', WHERE WHAT IT READS IS OF BULK AT MOST 1048576: true; the input reads as it did. -/
def fnExactTableOkUptoRow : OpenClaim := { program := "ytgeomhdbckjkcaa", sum := "20dd1cb7997ccf2da6e248004c8f8e449279bbf22cfe4b48d9f17d56799b33e0", func := "loop.example/g00236/laws.FnExactTableOk", spec := "fnExactTableOk", unfollowed := true, recurses := true, loops := true, apart := false, narrowed := true }
def FnExactTableOkUptoSaid : Prop := fnExactTableOkUptoRow.holds Try.pinned (OpenSpec.upto fnExactTableOkSpec)

/-- 'laws.FnMatched', WHERE WHAT IT READS IS OF BULK AT MOST 1048576: true; the input reads as it did. -/
def fnMatchedUptoRow : OpenClaim := { program := "ytgeomhdbckjkcaa", sum := "20dd1cb7997ccf2da6e248004c8f8e449279bbf22cfe4b48d9f17d56799b33e0", func := "loop.example/g00236/laws.FnMatched", spec := "fnMatched", unfollowed := true, recurses := true, apart := false, narrowed := true }
def FnMatchedUptoSaid : Prop := fnMatchedUptoRow.holds Try.pinned (OpenSpec.upto fnMatchedSpec)

/-- 'laws.FnSameCode', WHERE WHAT IT READS IS OF BULK AT MOST 1048576: true; the input reads as it did. -/
def fnSameCodeUptoRow : OpenClaim := { program := "ytgeomhdbckjkcaa", sum := "20dd1cb7997ccf2da6e248004c8f8e449279bbf22cfe4b48d9f17d56799b33e0", func := "loop.example/g00236/laws.FnSameCode", spec := "fnSameCode", unfollowed := true, recurses := true, apart := false, narrowed := true }
def FnSameCodeUptoSaid : Prop := fnSameCodeUptoRow.holds Try.pinned (OpenSpec.upto fnSameCodeSpec)

end Rows
end Go.Proofs.Ytgeomhdbckjkcaa
