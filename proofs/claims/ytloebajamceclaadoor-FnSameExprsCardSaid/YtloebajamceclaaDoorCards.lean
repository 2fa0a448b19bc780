/-
  DERIVED. GIVEN WITH THE SEED: THE CARDS: each row of YtloebajamceclaaDoorRows.lean that lists a variable, with what it lists TIED to the program's text (the seventh form; the later family's looks); each row that meets fmt, with fmt's text TOLD by the authors' own Lean function (tested against real Go, not proved from fmt's source: count such statements apart). THE CARD IS WHAT COUNTS. Prove the row's statement (the work); the ties are given (YtloebajamceclaaDoorTie.lean); close each card by the builder's one call (the guide's Derived/Test/ToyasCard.lean, 'card_holds'). Laid BY PROGRAM, IN A SANDBOX (cutbox-door.mjs). By AI agents, Wed Nov 11 2026. No macro, syntax, notation, axiom, sorry.
-/
import Derived.Test.YtloebajamceclaaDoorRows
import GoSem.ClaimSeven
namespace Go.Proofs.YtloebajamceclaaDoor
namespace Rows

/-- THE TIED CARD OF 'laws.FnExactExprText'. -/
def fnExactExprTextCard : Claim7 := { stood := { row := fnExactExprTextRow, standIns := [], harness := (true, "18b1d734f8cb4c919339ce245015333d2514eb13e0e22e545ebd2e9a966925e9"), looks := false }, kinds := [], alts := [], laidByText := true, laidKinds := [.data, .data, .data], laidTests := true, laidLooks := .later }
def FnExactExprTextCardSaid : Prop := Claim7.holds Tryd.pinned (.plain (OpenSpec.ofChange fnExactExprTextSpec)) fnExactExprTextCard

/-- THE TIED CARD OF 'laws.FnSameExprs'. -/
def fnSameExprsCard : Claim7 := { stood := { row := fnSameExprsRow, standIns := [], harness := (true, "18b1d734f8cb4c919339ce245015333d2514eb13e0e22e545ebd2e9a966925e9"), looks := false }, kinds := [], alts := [], laidByText := true, laidKinds := [.data, .data, .data], laidTests := true, laidLooks := .later }
def FnSameExprsCardSaid : Prop := Claim7.holds Tryd.pinned (.plain (OpenSpec.ofChange fnSameExprsSpec)) fnSameExprsCard

/-- THE TIED CARD OF 'laws.FnExactModuleText'. -/
def fnExactModuleTextCard : Claim7 := { stood := { row := fnExactModuleTextRow, standIns := [], harness := (true, "18b1d734f8cb4c919339ce245015333d2514eb13e0e22e545ebd2e9a966925e9"), looks := false }, kinds := [], alts := [], laidByText := true, laidKinds := [.data, .data, .data], laidTests := true, laidLooks := .later }
def FnExactModuleTextCardSaid : Prop := Claim7.holds Tryd.pinned (.plain (OpenSpec.ofChange fnExactModuleTextSpec)) fnExactModuleTextCard

/-- THE SECOND FORM's CARD OF 'laws.FnExactExprText'. -/
def fnExactExprTextUptoCard : Claim7 := { stood := { row := fnExactExprTextUptoRow, standIns := [], harness := (true, "18b1d734f8cb4c919339ce245015333d2514eb13e0e22e545ebd2e9a966925e9"), looks := false }, kinds := [], alts := [], laidByText := true, laidKinds := [.data, .data, .data], laidTests := true, laidLooks := .later }
def FnExactExprTextUptoCardSaid : Prop := Claim7.holds Tryd.pinned (.plain (OpenSpec.upto fnExactExprTextSpec)) fnExactExprTextUptoCard

/-- THE SECOND FORM's CARD OF 'laws.FnSameExprs'. -/
def fnSameExprsUptoCard : Claim7 := { stood := { row := fnSameExprsUptoRow, standIns := [], harness := (true, "18b1d734f8cb4c919339ce245015333d2514eb13e0e22e545ebd2e9a966925e9"), looks := false }, kinds := [], alts := [], laidByText := true, laidKinds := [.data, .data, .data], laidTests := true, laidLooks := .later }
def FnSameExprsUptoCardSaid : Prop := Claim7.holds Tryd.pinned (.plain (OpenSpec.upto fnSameExprsSpec)) fnSameExprsUptoCard

/-- THE SECOND FORM's CARD OF 'laws.FnExactModuleText'. -/
def fnExactModuleTextUptoCard : Claim7 := { stood := { row := fnExactModuleTextUptoRow, standIns := [], harness := (true, "18b1d734f8cb4c919339ce245015333d2514eb13e0e22e545ebd2e9a966925e9"), looks := false }, kinds := [], alts := [], laidByText := true, laidKinds := [.data, .data, .data], laidTests := true, laidLooks := .later }
def FnExactModuleTextUptoCardSaid : Prop := Claim7.holds Tryd.pinned (.plain (OpenSpec.upto fnExactModuleTextSpec)) fnExactModuleTextUptoCard
end Rows
end Go.Proofs.YtloebajamceclaaDoor
