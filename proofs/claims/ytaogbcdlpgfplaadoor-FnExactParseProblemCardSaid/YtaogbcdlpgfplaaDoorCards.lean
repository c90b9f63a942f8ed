/-
  DERIVED. GIVEN WITH THE SEED: THE CARDS: each row of YtaogbcdlpgfplaaDoorRows.lean that lists a variable, with what it lists TIED to the program's text (the seventh form; the later family's looks); each row that meets fmt, with fmt's text TOLD by the authors' own Lean function (tested against real Go, not proved from fmt's source: count such statements apart). THE CARD IS WHAT COUNTS. Prove the row's statement (the work); the ties are given (YtaogbcdlpgfplaaDoorTie.lean); close each card by the builder's one call (the guide's Derived/Test/ToyasCard.lean, 'card_holds'). Laid BY PROGRAM, IN A SANDBOX (cutbox-door.mjs). By AI agents, Wed Nov 11 2026. No macro, syntax, notation, axiom, sorry.
-/
import Derived.Test.YtaogbcdlpgfplaaDoorRows
import GoSem.ClaimSeven
namespace Go.Proofs.YtaogbcdlpgfplaaDoor
namespace Rows

/-- THE TIED CARD OF 'laws.FnExactValueText'. -/
def fnExactValueTextCard : Claim7 := { stood := { row := fnExactValueTextRow, standIns := [], harness := (true, "80f0a7403ca258d5f9e14ec229b8504510fa57147c1191fad6ecc875468731e6"), looks := true }, kinds := [], alts := [], laidByText := true, laidKinds := [.data, .data, .data, .data, .pinned], laidTests := true, laidLooks := .later }
def FnExactValueTextCardSaid : Prop := Claim7.holds Tryd.pinned (.plain (OpenSpec.ofChange fnExactValueTextSpec)) fnExactValueTextCard

/-- THE TIED CARD OF 'laws.FnExactParseValue'. -/
def fnExactParseValueCard : Claim7 := { stood := { row := fnExactParseValueRow, standIns := [], harness := (true, "80f0a7403ca258d5f9e14ec229b8504510fa57147c1191fad6ecc875468731e6"), looks := true }, kinds := [], alts := [], laidByText := true, laidKinds := [.data, .data, .data, .data, .sentinel, .sentinel, .pinned], laidTests := true, laidLooks := .later }
def FnExactParseValueCardSaid : Prop := Claim7.holds Tryd.pinned (.plain (OpenSpec.ofChange fnExactParseValueSpec)) fnExactParseValueCard

/-- THE TIED CARD OF 'laws.FnExactProblemText'. -/
def fnExactProblemTextCard : Claim7 := { stood := { row := fnExactProblemTextRow, standIns := [], harness := (true, "80f0a7403ca258d5f9e14ec229b8504510fa57147c1191fad6ecc875468731e6"), looks := true }, kinds := [], alts := [], laidByText := true, laidKinds := [.data, .data, .data], laidTests := true, laidLooks := .later }
def FnExactProblemTextCardSaid : Prop := Claim7.holds Tryd.pinned (.plain (OpenSpec.ofChange fnExactProblemTextSpec)) fnExactProblemTextCard

/-- THE TIED CARD OF 'laws.FnExactParseProblem'. -/
def fnExactParseProblemCard : Claim7 := { stood := { row := fnExactParseProblemRow, standIns := [], harness := (true, "80f0a7403ca258d5f9e14ec229b8504510fa57147c1191fad6ecc875468731e6"), looks := true }, kinds := [], alts := [], laidByText := true, laidKinds := [.data, .data, .data, .data, .sentinel, .sentinel, .pinned], laidTests := true, laidLooks := .later }
def FnExactParseProblemCardSaid : Prop := Claim7.holds Tryd.pinned (.plain (OpenSpec.ofChange fnExactParseProblemSpec)) fnExactParseProblemCard

/-- THE SECOND FORM's CARD OF 'laws.FnExactValueText'. -/
def fnExactValueTextUptoCard : Claim7 := { stood := { row := fnExactValueTextUptoRow, standIns := [], harness := (true, "80f0a7403ca258d5f9e14ec229b8504510fa57147c1191fad6ecc875468731e6"), looks := true }, kinds := [], alts := [], laidByText := true, laidKinds := [.data, .data, .data, .data, .pinned], laidTests := true, laidLooks := .later }
def FnExactValueTextUptoCardSaid : Prop := Claim7.holds Tryd.pinned (.plain (OpenSpec.upto fnExactValueTextSpec)) fnExactValueTextUptoCard

/-- THE SECOND FORM's CARD OF 'laws.FnExactParseValue'. -/
def fnExactParseValueUptoCard : Claim7 := { stood := { row := fnExactParseValueUptoRow, standIns := [], harness := (true, "80f0a7403ca258d5f9e14ec229b8504510fa57147c1191fad6ecc875468731e6"), looks := true }, kinds := [], alts := [], laidByText := true, laidKinds := [.data, .data, .data, .data, .sentinel, .sentinel, .pinned], laidTests := true, laidLooks := .later }
def FnExactParseValueUptoCardSaid : Prop := Claim7.holds Tryd.pinned (.plain (OpenSpec.upto fnExactParseValueSpec)) fnExactParseValueUptoCard

/-- THE SECOND FORM's CARD OF 'laws.FnExactProblemText'. -/
def fnExactProblemTextUptoCard : Claim7 := { stood := { row := fnExactProblemTextUptoRow, standIns := [], harness := (true, "80f0a7403ca258d5f9e14ec229b8504510fa57147c1191fad6ecc875468731e6"), looks := true }, kinds := [], alts := [], laidByText := true, laidKinds := [.data, .data, .data], laidTests := true, laidLooks := .later }
def FnExactProblemTextUptoCardSaid : Prop := Claim7.holds Tryd.pinned (.plain (OpenSpec.upto fnExactProblemTextSpec)) fnExactProblemTextUptoCard

/-- THE SECOND FORM's CARD OF 'laws.FnExactParseProblem'. -/
def fnExactParseProblemUptoCard : Claim7 := { stood := { row := fnExactParseProblemUptoRow, standIns := [], harness := (true, "80f0a7403ca258d5f9e14ec229b8504510fa57147c1191fad6ecc875468731e6"), looks := true }, kinds := [], alts := [], laidByText := true, laidKinds := [.data, .data, .data, .data, .sentinel, .sentinel, .pinned], laidTests := true, laidLooks := .later }
def FnExactParseProblemUptoCardSaid : Prop := Claim7.holds Tryd.pinned (.plain (OpenSpec.upto fnExactParseProblemSpec)) fnExactParseProblemUptoCard
end Rows
end Go.Proofs.YtaogbcdlpgfplaaDoor
