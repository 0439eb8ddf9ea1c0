/-
  DERIVED. GIVEN WITH THE SEED: THE CARDS: each row of YtmeaagnamlilgaaDoorRows.lean that lists a variable, with what it lists TIED to the program's text (the seventh form; the later family's looks); each row that meets fmt, with fmt's text TOLD by the authors' own Lean function (tested against real Go, not proved from fmt's source: count such statements apart). THE CARD IS WHAT COUNTS. Prove the row's statement (the work); the ties are given (YtmeaagnamlilgaaDoorTie.lean); close each card by the builder's one call (the guide's Derived/Test/ToyasCard.lean, 'card_holds'). Laid BY PROGRAM, IN A SANDBOX (cutbox-door.mjs). By AI agents, Wed Nov 11 2026. No macro, syntax, notation, axiom, sorry.
-/
import Derived.Test.YtmeaagnamlilgaaDoorRows
import GoSem.ClaimSeven
namespace Go.Proofs.YtmeaagnamlilgaaDoor
namespace Rows

/-- THE TIED CARD OF 'posthouselaw5.VerdictMatchesSpec'. -/
def verdictMatchesSpecCard : Claim7 := { stood := { row := verdictMatchesSpecRow, standIns := [], harness := (true, "b8dd4838268b0cd9d87d6d01c0dc2a207530de43cd646774c16ecf9aa5010d2d"), looks := false }, kinds := [], alts := [], laidByText := true, laidKinds := [.data], laidTests := true, laidLooks := .later }
def VerdictMatchesSpecCardSaid : Prop := Claim7.holds Tryd.pinned (.plain (OpenSpec.ofChange verdictMatchesSpecSpec)) verdictMatchesSpecCard

/-- THE TIED CARD OF 'posthouselaw5.VerdictIsMonotone'. -/
def verdictIsMonotoneCard : Claim7 := { stood := { row := verdictIsMonotoneRow, standIns := [], harness := (true, "b8dd4838268b0cd9d87d6d01c0dc2a207530de43cd646774c16ecf9aa5010d2d"), looks := false }, kinds := [], alts := [], laidByText := true, laidKinds := [.data], laidTests := true, laidLooks := .later }
def VerdictIsMonotoneCardSaid : Prop := Claim7.holds Tryd.pinned (.plain (OpenSpec.ofChange verdictIsMonotoneSpec)) verdictIsMonotoneCard

/-- THE TIED CARD OF 'posthouselaw5.VerdictReasonsAddUp'. -/
def verdictReasonsAddUpCard : Claim7 := { stood := { row := verdictReasonsAddUpRow, standIns := [], harness := (true, "b8dd4838268b0cd9d87d6d01c0dc2a207530de43cd646774c16ecf9aa5010d2d"), looks := false }, kinds := [], alts := [], laidByText := true, laidKinds := [.data], laidTests := true, laidLooks := .later }
def VerdictReasonsAddUpCardSaid : Prop := Claim7.holds Tryd.pinned (.plain (OpenSpec.ofChange verdictReasonsAddUpSpec)) verdictReasonsAddUpCard

/-- THE TIED CARD OF 'posthouselaw5.VerdictSignaturesDoNotHurt'. -/
def verdictSignaturesDoNotHurtCard : Claim7 := { stood := { row := verdictSignaturesDoNotHurtRow, standIns := [], harness := (true, "b8dd4838268b0cd9d87d6d01c0dc2a207530de43cd646774c16ecf9aa5010d2d"), looks := false }, kinds := [], alts := [], laidByText := true, laidKinds := [.data], laidTests := true, laidLooks := .later }
def VerdictSignaturesDoNotHurtCardSaid : Prop := Claim7.holds Tryd.pinned (.plain (OpenSpec.ofChange verdictSignaturesDoNotHurtSpec)) verdictSignaturesDoNotHurtCard

/-- THE SECOND FORM's CARD OF 'posthouselaw5.VerdictMatchesSpec'. -/
def verdictMatchesSpecUptoCard : Claim7 := { stood := { row := verdictMatchesSpecUptoRow, standIns := [], harness := (true, "b8dd4838268b0cd9d87d6d01c0dc2a207530de43cd646774c16ecf9aa5010d2d"), looks := false }, kinds := [], alts := [], laidByText := true, laidKinds := [.data], laidTests := true, laidLooks := .later }
def VerdictMatchesSpecUptoCardSaid : Prop := Claim7.holds Tryd.pinned (.plain (OpenSpec.upto verdictMatchesSpecSpec)) verdictMatchesSpecUptoCard

/-- THE SECOND FORM's CARD OF 'posthouselaw5.VerdictIsMonotone'. -/
def verdictIsMonotoneUptoCard : Claim7 := { stood := { row := verdictIsMonotoneUptoRow, standIns := [], harness := (true, "b8dd4838268b0cd9d87d6d01c0dc2a207530de43cd646774c16ecf9aa5010d2d"), looks := false }, kinds := [], alts := [], laidByText := true, laidKinds := [.data], laidTests := true, laidLooks := .later }
def VerdictIsMonotoneUptoCardSaid : Prop := Claim7.holds Tryd.pinned (.plain (OpenSpec.upto verdictIsMonotoneSpec)) verdictIsMonotoneUptoCard

/-- THE SECOND FORM's CARD OF 'posthouselaw5.VerdictReasonsAddUp'. -/
def verdictReasonsAddUpUptoCard : Claim7 := { stood := { row := verdictReasonsAddUpUptoRow, standIns := [], harness := (true, "b8dd4838268b0cd9d87d6d01c0dc2a207530de43cd646774c16ecf9aa5010d2d"), looks := false }, kinds := [], alts := [], laidByText := true, laidKinds := [.data], laidTests := true, laidLooks := .later }
def VerdictReasonsAddUpUptoCardSaid : Prop := Claim7.holds Tryd.pinned (.plain (OpenSpec.upto verdictReasonsAddUpSpec)) verdictReasonsAddUpUptoCard

/-- THE SECOND FORM's CARD OF 'posthouselaw5.VerdictSignaturesDoNotHurt'. -/
def verdictSignaturesDoNotHurtUptoCard : Claim7 := { stood := { row := verdictSignaturesDoNotHurtUptoRow, standIns := [], harness := (true, "b8dd4838268b0cd9d87d6d01c0dc2a207530de43cd646774c16ecf9aa5010d2d"), looks := false }, kinds := [], alts := [], laidByText := true, laidKinds := [.data], laidTests := true, laidLooks := .later }
def VerdictSignaturesDoNotHurtUptoCardSaid : Prop := Claim7.holds Tryd.pinned (.plain (OpenSpec.upto verdictSignaturesDoNotHurtSpec)) verdictSignaturesDoNotHurtUptoCard
end Rows
end Go.Proofs.YtmeaagnamlilgaaDoor
