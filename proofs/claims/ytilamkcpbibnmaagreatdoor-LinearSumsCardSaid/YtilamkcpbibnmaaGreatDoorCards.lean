/-
  DERIVED. GIVEN WITH THE SEED: THE CARDS: each row of YtilamkcpbibnmaaGreatDoorRows.lean that lists a variable, with what it lists TIED to the program's text (the seventh form; the later family's looks); each row that meets fmt, with fmt's text TOLD by the authors' own Lean function (tested against real Go, not proved from fmt's source: count such statements apart). THE CARD IS WHAT COUNTS. Prove the row's statement (the work); the ties are given (YtilamkcpbibnmaaGreatDoorTie.lean); close each card by the builder's one call (the guide's Derived/Test/ToyasCard.lean, 'card_holds'). Laid BY PROGRAM, IN A SANDBOX (cutbox-door.mjs). By AI agents, Wed Nov 11 2026. No macro, syntax, notation, axiom, sorry.
-/
import Derived.Test.YtilamkcpbibnmaaGreatDoorRows
import GoSem.ClaimSeven
namespace Go.Proofs.YtilamkcpbibnmaaGreatDoor
namespace Rows

/-- THE TIED CARD OF 'fleuronlaw08.LinearSums'. -/
def linearSumsCard : Claim7 := { stood := { row := linearSumsRow, standIns := [], harness := (true, "8d5640704219309dfae3255b2935f1a768b5852ec462f8ff3dfa458c19d9411f"), looks := true }, kinds := [], alts := [], laidByText := true, laidKinds := [.data, .data, .data, .sentinel, .sentinel, .data, .data], laidTests := true, laidLooks := .later }
def LinearSumsCardSaid : Prop := Claim7.holds Tryz.pinned (.plain (OpenSpec.ofChange linearSumsSpec)) linearSumsCard

/-- THE TIED CARD OF 'fleuronlaw08.LinearTimes'. -/
def linearTimesCard : Claim7 := { stood := { row := linearTimesRow, standIns := [], harness := (true, "8d5640704219309dfae3255b2935f1a768b5852ec462f8ff3dfa458c19d9411f"), looks := true }, kinds := [], alts := [], laidByText := true, laidKinds := [.data, .data, .data, .sentinel, .sentinel, .data, .data], laidTests := true, laidLooks := .later }
def LinearTimesCardSaid : Prop := Claim7.holds Tryz.pinned (.plain (OpenSpec.ofChange linearTimesSpec)) linearTimesCard

/-- THE TIED CARD OF 'fleuronlaw08.LinearAt'. -/
def linearAtCard : Claim7 := { stood := { row := linearAtRow, standIns := [], harness := (true, "8d5640704219309dfae3255b2935f1a768b5852ec462f8ff3dfa458c19d9411f"), looks := true }, kinds := [], alts := [], laidByText := true, laidKinds := [.data, .data, .data, .sentinel, .sentinel, .data, .data], laidTests := true, laidLooks := .later }
def LinearAtCardSaid : Prop := Claim7.holds Tryz.pinned (.plain (OpenSpec.ofChange linearAtSpec)) linearAtCard

/-- THE TIED CARD OF 'fleuronlaw08.LinearTexts'. -/
def linearTextsCard : Claim7 := { stood := { row := linearTextsRow, standIns := [], harness := (true, "8d5640704219309dfae3255b2935f1a768b5852ec462f8ff3dfa458c19d9411f"), looks := true }, kinds := [], alts := [], laidByText := true, laidKinds := [.data, .data, .data, .sentinel, .sentinel, .data, .data], laidTests := true, laidLooks := .later }
def LinearTextsCardSaid : Prop := Claim7.holds Tryz.pinned (.plain (OpenSpec.ofChange linearTextsSpec)) linearTextsCard

/-- THE TIED CARD OF 'fleuronlaw08.LinearSpace'. -/
def linearSpaceCard : Claim7 := { stood := { row := linearSpaceRow, standIns := [], harness := (true, "8d5640704219309dfae3255b2935f1a768b5852ec462f8ff3dfa458c19d9411f"), looks := true }, kinds := [], alts := [], laidByText := true, laidKinds := [.data, .data, .data, .sentinel, .sentinel, .data, .data], laidTests := true, laidLooks := .later }
def LinearSpaceCardSaid : Prop := Claim7.holds Tryz.pinned (.plain (OpenSpec.ofChange linearSpaceSpec)) linearSpaceCard

/-- THE TIED CARD OF 'fleuronlaw08.LinearValues'. -/
def linearValuesCard : Claim7 := { stood := { row := linearValuesRow, standIns := [], harness := (true, "8d5640704219309dfae3255b2935f1a768b5852ec462f8ff3dfa458c19d9411f"), looks := true }, kinds := [], alts := [], laidByText := true, laidKinds := [.data, .data, .data, .sentinel, .sentinel, .data, .data], laidTests := true, laidLooks := .later }
def LinearValuesCardSaid : Prop := Claim7.holds Tryz.pinned (.plain (OpenSpec.ofChange linearValuesSpec)) linearValuesCard

/-- THE TIED CARD OF 'fleuronlaw08.LinearBack'. -/
def linearBackCard : Claim7 := { stood := { row := linearBackRow, standIns := [], harness := (true, "8d5640704219309dfae3255b2935f1a768b5852ec462f8ff3dfa458c19d9411f"), looks := true }, kinds := [], alts := [], laidByText := true, laidKinds := [.data, .data, .data, .sentinel, .sentinel, .data, .data], laidTests := true, laidLooks := .later }
def LinearBackCardSaid : Prop := Claim7.holds Tryz.pinned (.plain (OpenSpec.ofChange linearBackSpec)) linearBackCard

/-- THE TIED CARD OF 'fleuronlaw08.LinearOwn'. -/
def linearOwnCard : Claim7 := { stood := { row := linearOwnRow, standIns := [], harness := (true, "8d5640704219309dfae3255b2935f1a768b5852ec462f8ff3dfa458c19d9411f"), looks := true }, kinds := [], alts := [], laidByText := true, laidKinds := [.data, .data, .data, .sentinel, .sentinel, .data, .data], laidTests := true, laidLooks := .later }
def LinearOwnCardSaid : Prop := Claim7.holds Tryz.pinned (.plain (OpenSpec.ofChange linearOwnSpec)) linearOwnCard

/-- THE SECOND FORM's CARD OF 'fleuronlaw08.LinearSums'. -/
def linearSumsUptoCard : Claim7 := { stood := { row := linearSumsUptoRow, standIns := [], harness := (true, "8d5640704219309dfae3255b2935f1a768b5852ec462f8ff3dfa458c19d9411f"), looks := true }, kinds := [], alts := [], laidByText := true, laidKinds := [.data, .data, .data, .sentinel, .sentinel, .data, .data], laidTests := true, laidLooks := .later }
def LinearSumsUptoCardSaid : Prop := Claim7.holds Tryz.pinned (.plain (OpenSpec.upto linearSumsSpec)) linearSumsUptoCard

/-- THE SECOND FORM's CARD OF 'fleuronlaw08.LinearTimes'. -/
def linearTimesUptoCard : Claim7 := { stood := { row := linearTimesUptoRow, standIns := [], harness := (true, "8d5640704219309dfae3255b2935f1a768b5852ec462f8ff3dfa458c19d9411f"), looks := true }, kinds := [], alts := [], laidByText := true, laidKinds := [.data, .data, .data, .sentinel, .sentinel, .data, .data], laidTests := true, laidLooks := .later }
def LinearTimesUptoCardSaid : Prop := Claim7.holds Tryz.pinned (.plain (OpenSpec.upto linearTimesSpec)) linearTimesUptoCard

/-- THE SECOND FORM's CARD OF 'fleuronlaw08.LinearAt'. -/
def linearAtUptoCard : Claim7 := { stood := { row := linearAtUptoRow, standIns := [], harness := (true, "8d5640704219309dfae3255b2935f1a768b5852ec462f8ff3dfa458c19d9411f"), looks := true }, kinds := [], alts := [], laidByText := true, laidKinds := [.data, .data, .data, .sentinel, .sentinel, .data, .data], laidTests := true, laidLooks := .later }
def LinearAtUptoCardSaid : Prop := Claim7.holds Tryz.pinned (.plain (OpenSpec.upto linearAtSpec)) linearAtUptoCard

/-- THE SECOND FORM's CARD OF 'fleuronlaw08.LinearTexts'. -/
def linearTextsUptoCard : Claim7 := { stood := { row := linearTextsUptoRow, standIns := [], harness := (true, "8d5640704219309dfae3255b2935f1a768b5852ec462f8ff3dfa458c19d9411f"), looks := true }, kinds := [], alts := [], laidByText := true, laidKinds := [.data, .data, .data, .sentinel, .sentinel, .data, .data], laidTests := true, laidLooks := .later }
def LinearTextsUptoCardSaid : Prop := Claim7.holds Tryz.pinned (.plain (OpenSpec.upto linearTextsSpec)) linearTextsUptoCard

/-- THE SECOND FORM's CARD OF 'fleuronlaw08.LinearSpace'. -/
def linearSpaceUptoCard : Claim7 := { stood := { row := linearSpaceUptoRow, standIns := [], harness := (true, "8d5640704219309dfae3255b2935f1a768b5852ec462f8ff3dfa458c19d9411f"), looks := true }, kinds := [], alts := [], laidByText := true, laidKinds := [.data, .data, .data, .sentinel, .sentinel, .data, .data], laidTests := true, laidLooks := .later }
def LinearSpaceUptoCardSaid : Prop := Claim7.holds Tryz.pinned (.plain (OpenSpec.upto linearSpaceSpec)) linearSpaceUptoCard

/-- THE SECOND FORM's CARD OF 'fleuronlaw08.LinearValues'. -/
def linearValuesUptoCard : Claim7 := { stood := { row := linearValuesUptoRow, standIns := [], harness := (true, "8d5640704219309dfae3255b2935f1a768b5852ec462f8ff3dfa458c19d9411f"), looks := true }, kinds := [], alts := [], laidByText := true, laidKinds := [.data, .data, .data, .sentinel, .sentinel, .data, .data], laidTests := true, laidLooks := .later }
def LinearValuesUptoCardSaid : Prop := Claim7.holds Tryz.pinned (.plain (OpenSpec.upto linearValuesSpec)) linearValuesUptoCard

/-- THE SECOND FORM's CARD OF 'fleuronlaw08.LinearBack'. -/
def linearBackUptoCard : Claim7 := { stood := { row := linearBackUptoRow, standIns := [], harness := (true, "8d5640704219309dfae3255b2935f1a768b5852ec462f8ff3dfa458c19d9411f"), looks := true }, kinds := [], alts := [], laidByText := true, laidKinds := [.data, .data, .data, .sentinel, .sentinel, .data, .data], laidTests := true, laidLooks := .later }
def LinearBackUptoCardSaid : Prop := Claim7.holds Tryz.pinned (.plain (OpenSpec.upto linearBackSpec)) linearBackUptoCard

/-- THE SECOND FORM's CARD OF 'fleuronlaw08.LinearOwn'. -/
def linearOwnUptoCard : Claim7 := { stood := { row := linearOwnUptoRow, standIns := [], harness := (true, "8d5640704219309dfae3255b2935f1a768b5852ec462f8ff3dfa458c19d9411f"), looks := true }, kinds := [], alts := [], laidByText := true, laidKinds := [.data, .data, .data, .sentinel, .sentinel, .data, .data], laidTests := true, laidLooks := .later }
def LinearOwnUptoCardSaid : Prop := Claim7.holds Tryz.pinned (.plain (OpenSpec.upto linearOwnSpec)) linearOwnUptoCard
end Rows
end Go.Proofs.YtilamkcpbibnmaaGreatDoor
