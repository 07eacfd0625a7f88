/-
  DERIVED. GIVEN WITH THE SEED: THE CARDS: each row of YtpbfelgcaelpoaaDoorRows.lean that lists a variable, with what it lists TIED to the program's text (the seventh form; the later family's looks); each row that meets fmt, with fmt's text TOLD by the authors' own Lean function (tested against real Go, not proved from fmt's source: count such statements apart). THE CARD IS WHAT COUNTS. Prove the row's statement (the work); the ties are given (YtpbfelgcaelpoaaDoorTie.lean); close each card by the builder's one call (the guide's Derived/Test/ToyasCard.lean, 'card_holds'). Laid BY PROGRAM, IN A SANDBOX (cutbox-door.mjs). By AI agents, Wed Nov 11 2026. No macro, syntax, notation, axiom, sorry.
-/
import Derived.Test.YtpbfelgcaelpoaaDoorRows
import GoSem.ClaimSeven
namespace Go.Proofs.YtpbfelgcaelpoaaDoor
namespace Rows

/-- THE TIED CARD OF 'wainwrightlaw10.SyntaxDeep'. -/
def syntaxDeepCard : Claim7 := { stood := { row := syntaxDeepRow, standIns := [], harness := (true, "aa4c15487b0c702d35c2dfd36795b92f64053384189d122f411bf7c7ec29d4c6"), looks := true }, kinds := [], alts := [], laidByText := true, laidKinds := [.data, .pinned], laidTests := true, laidLooks := .later }
def SyntaxDeepCardSaid : Prop := Claim7.holds Tryd.pinned (.plain (OpenSpec.ofChange syntaxDeepSpec)) syntaxDeepCard

/-- THE TIED CARD OF 'wainwrightlaw10.SyntaxCalls'. -/
def syntaxCallsCard : Claim7 := { stood := { row := syntaxCallsRow, standIns := [], harness := (true, "aa4c15487b0c702d35c2dfd36795b92f64053384189d122f411bf7c7ec29d4c6"), looks := true }, kinds := [], alts := [], laidByText := true, laidKinds := [.data, .pinned], laidTests := true, laidLooks := .later }
def SyntaxCallsCardSaid : Prop := Claim7.holds Tryd.pinned (.plain (OpenSpec.ofChange syntaxCallsSpec)) syntaxCallsCard

/-- THE TIED CARD OF 'wainwrightlaw10.SyntaxPlain'. -/
def syntaxPlainCard : Claim7 := { stood := { row := syntaxPlainRow, standIns := [], harness := (true, "aa4c15487b0c702d35c2dfd36795b92f64053384189d122f411bf7c7ec29d4c6"), looks := true }, kinds := [], alts := [], laidByText := true, laidKinds := [.data, .pinned], laidTests := true, laidLooks := .later }
def SyntaxPlainCardSaid : Prop := Claim7.holds Tryd.pinned (.plain (OpenSpec.ofChange syntaxPlainSpec)) syntaxPlainCard

/-- THE TIED CARD OF 'wainwrightlaw27.RenderFits'. -/
def renderFitsCard : Claim7 := { stood := { row := renderFitsRow, standIns := [], harness := (true, "aa4c15487b0c702d35c2dfd36795b92f64053384189d122f411bf7c7ec29d4c6"), looks := true }, kinds := [], alts := [], laidByText := true, laidKinds := [.data, .pinned], laidTests := true, laidLooks := .later }
def RenderFitsCardSaid : Prop := Claim7.holds Tryd.pinned (.plain (OpenSpec.ofChange renderFitsSpec)) renderFitsCard

/-- THE TIED CARD OF 'wainwrightlaw27.RenderValues'. -/
def renderValuesCard : Claim7 := { stood := { row := renderValuesRow, standIns := [], harness := (true, "aa4c15487b0c702d35c2dfd36795b92f64053384189d122f411bf7c7ec29d4c6"), looks := true }, kinds := [], alts := [], laidByText := true, laidKinds := [.data, .pinned], laidTests := true, laidLooks := .later }
def RenderValuesCardSaid : Prop := Claim7.holds Tryd.pinned (.plain (OpenSpec.ofChange renderValuesSpec)) renderValuesCard

/-- THE TIED CARD OF 'wainwrightlaw27.RenderRules'. -/
def renderRulesCard : Claim7 := { stood := { row := renderRulesRow, standIns := [], harness := (true, "aa4c15487b0c702d35c2dfd36795b92f64053384189d122f411bf7c7ec29d4c6"), looks := true }, kinds := [], alts := [], laidByText := true, laidKinds := [.data, .pinned], laidTests := true, laidLooks := .later }
def RenderRulesCardSaid : Prop := Claim7.holds Tryd.pinned (.plain (OpenSpec.ofChange renderRulesSpec)) renderRulesCard

/-- THE SECOND FORM's CARD OF 'wainwrightlaw10.SyntaxDeep'. -/
def syntaxDeepUptoCard : Claim7 := { stood := { row := syntaxDeepUptoRow, standIns := [], harness := (true, "aa4c15487b0c702d35c2dfd36795b92f64053384189d122f411bf7c7ec29d4c6"), looks := true }, kinds := [], alts := [], laidByText := true, laidKinds := [.data, .pinned], laidTests := true, laidLooks := .later }
def SyntaxDeepUptoCardSaid : Prop := Claim7.holds Tryd.pinned (.plain (OpenSpec.upto syntaxDeepSpec)) syntaxDeepUptoCard

/-- THE SECOND FORM's CARD OF 'wainwrightlaw10.SyntaxCalls'. -/
def syntaxCallsUptoCard : Claim7 := { stood := { row := syntaxCallsUptoRow, standIns := [], harness := (true, "aa4c15487b0c702d35c2dfd36795b92f64053384189d122f411bf7c7ec29d4c6"), looks := true }, kinds := [], alts := [], laidByText := true, laidKinds := [.data, .pinned], laidTests := true, laidLooks := .later }
def SyntaxCallsUptoCardSaid : Prop := Claim7.holds Tryd.pinned (.plain (OpenSpec.upto syntaxCallsSpec)) syntaxCallsUptoCard

/-- THE SECOND FORM's CARD OF 'wainwrightlaw10.SyntaxPlain'. -/
def syntaxPlainUptoCard : Claim7 := { stood := { row := syntaxPlainUptoRow, standIns := [], harness := (true, "aa4c15487b0c702d35c2dfd36795b92f64053384189d122f411bf7c7ec29d4c6"), looks := true }, kinds := [], alts := [], laidByText := true, laidKinds := [.data, .pinned], laidTests := true, laidLooks := .later }
def SyntaxPlainUptoCardSaid : Prop := Claim7.holds Tryd.pinned (.plain (OpenSpec.upto syntaxPlainSpec)) syntaxPlainUptoCard

/-- THE SECOND FORM's CARD OF 'wainwrightlaw27.RenderFits'. -/
def renderFitsUptoCard : Claim7 := { stood := { row := renderFitsUptoRow, standIns := [], harness := (true, "aa4c15487b0c702d35c2dfd36795b92f64053384189d122f411bf7c7ec29d4c6"), looks := true }, kinds := [], alts := [], laidByText := true, laidKinds := [.data, .pinned], laidTests := true, laidLooks := .later }
def RenderFitsUptoCardSaid : Prop := Claim7.holds Tryd.pinned (.plain (OpenSpec.upto renderFitsSpec)) renderFitsUptoCard

/-- THE SECOND FORM's CARD OF 'wainwrightlaw27.RenderValues'. -/
def renderValuesUptoCard : Claim7 := { stood := { row := renderValuesUptoRow, standIns := [], harness := (true, "aa4c15487b0c702d35c2dfd36795b92f64053384189d122f411bf7c7ec29d4c6"), looks := true }, kinds := [], alts := [], laidByText := true, laidKinds := [.data, .pinned], laidTests := true, laidLooks := .later }
def RenderValuesUptoCardSaid : Prop := Claim7.holds Tryd.pinned (.plain (OpenSpec.upto renderValuesSpec)) renderValuesUptoCard

/-- THE SECOND FORM's CARD OF 'wainwrightlaw27.RenderRules'. -/
def renderRulesUptoCard : Claim7 := { stood := { row := renderRulesUptoRow, standIns := [], harness := (true, "aa4c15487b0c702d35c2dfd36795b92f64053384189d122f411bf7c7ec29d4c6"), looks := true }, kinds := [], alts := [], laidByText := true, laidKinds := [.data, .pinned], laidTests := true, laidLooks := .later }
def RenderRulesUptoCardSaid : Prop := Claim7.holds Tryd.pinned (.plain (OpenSpec.upto renderRulesSpec)) renderRulesUptoCard
end Rows
end Go.Proofs.YtpbfelgcaelpoaaDoor
