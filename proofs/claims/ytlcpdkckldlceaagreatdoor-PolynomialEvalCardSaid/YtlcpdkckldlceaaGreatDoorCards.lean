/-
  DERIVED. GIVEN WITH THE SEED: THE CARDS: each row of YtlcpdkckldlceaaGreatDoorRows.lean that lists a variable, with what it lists TIED to the program's text (the seventh form; the later family's looks); each row that meets fmt, with fmt's text TOLD by the authors' own Lean function (tested against real Go, not proved from fmt's source: count such statements apart). THE CARD IS WHAT COUNTS. Prove the row's statement (the work); the ties are given (YtlcpdkckldlceaaGreatDoorTie.lean); close each card by the builder's one call (the guide's Derived/Test/ToyasCard.lean, 'card_holds'). Laid BY PROGRAM, IN A SANDBOX (cutbox-door.mjs). By AI agents, Wed Nov 11 2026. No macro, syntax, notation, axiom, sorry.
-/
import Derived.Test.YtlcpdkckldlceaaGreatDoorRows
import GoSem.ClaimSeven
namespace Go.Proofs.YtlcpdkckldlceaaGreatDoor
namespace Rows

/-- THE TIED CARD OF 'palmettelaw40.PolynomialParse'. -/
def polynomialParseCard : Claim7 := { stood := { row := polynomialParseRow, standIns := [], harness := (true, "4c7241f762aebecb2fea502cdf3403f06c706a04131e3f3d9b770a9c6a20e93c"), looks := true }, kinds := [], alts := [], laidByText := true, laidKinds := [.data, .data, .data, .data, .sentinel, .sentinel, .pinned], laidTests := true, laidLooks := .later }
def PolynomialParseCardSaid : Prop := Claim7.holds Tryz.pinned (.plain (OpenSpec.ofChange polynomialParseSpec)) polynomialParseCard

/-- THE TIED CARD OF 'palmettelaw40.PolynomialSumProduct'. -/
def polynomialSumProductCard : Claim7 := { stood := { row := polynomialSumProductRow, standIns := [], harness := (true, "4c7241f762aebecb2fea502cdf3403f06c706a04131e3f3d9b770a9c6a20e93c"), looks := true }, kinds := [], alts := [], laidByText := true, laidKinds := [.data, .data, .data, .data, .sentinel, .sentinel, .pinned], laidTests := true, laidLooks := .later }
def PolynomialSumProductCardSaid : Prop := Claim7.holds Tryz.pinned (.plain (OpenSpec.ofChange polynomialSumProductSpec)) polynomialSumProductCard

/-- THE TIED CARD OF 'palmettelaw40.PolynomialSemiring'. -/
def polynomialSemiringCard : Claim7 := { stood := { row := polynomialSemiringRow, standIns := [], harness := (true, "4c7241f762aebecb2fea502cdf3403f06c706a04131e3f3d9b770a9c6a20e93c"), looks := true }, kinds := [], alts := [], laidByText := true, laidKinds := [.data, .data, .data, .data, .sentinel, .sentinel, .pinned], laidTests := true, laidLooks := .later }
def PolynomialSemiringCardSaid : Prop := Claim7.holds Tryz.pinned (.plain (OpenSpec.ofChange polynomialSemiringSpec)) polynomialSemiringCard

/-- THE TIED CARD OF 'palmettelaw40.PolynomialEval'. -/
def polynomialEvalCard : Claim7 := { stood := { row := polynomialEvalRow, standIns := [], harness := (true, "4c7241f762aebecb2fea502cdf3403f06c706a04131e3f3d9b770a9c6a20e93c"), looks := true }, kinds := [], alts := [], laidByText := true, laidKinds := [.data, .data, .data, .data, .sentinel, .sentinel, .pinned], laidTests := true, laidLooks := .later }
def PolynomialEvalCardSaid : Prop := Claim7.holds Tryz.pinned (.plain (OpenSpec.ofChange polynomialEvalSpec)) polynomialEvalCard

/-- THE TIED CARD OF 'palmettelaw40.PolynomialTexts'. -/
def polynomialTextsCard : Claim7 := { stood := { row := polynomialTextsRow, standIns := [], harness := (true, "4c7241f762aebecb2fea502cdf3403f06c706a04131e3f3d9b770a9c6a20e93c"), looks := true }, kinds := [], alts := [], laidByText := true, laidKinds := [.data, .data, .data, .data, .sentinel, .sentinel, .pinned], laidTests := true, laidLooks := .later }
def PolynomialTextsCardSaid : Prop := Claim7.holds Tryz.pinned (.plain (OpenSpec.ofChange polynomialTextsSpec)) polynomialTextsCard

/-- THE TIED CARD OF 'palmettelaw40.PolynomialTerms'. -/
def polynomialTermsCard : Claim7 := { stood := { row := polynomialTermsRow, standIns := [], harness := (true, "4c7241f762aebecb2fea502cdf3403f06c706a04131e3f3d9b770a9c6a20e93c"), looks := true }, kinds := [], alts := [], laidByText := true, laidKinds := [.data, .data, .data, .data, .sentinel, .sentinel, .pinned], laidTests := true, laidLooks := .later }
def PolynomialTermsCardSaid : Prop := Claim7.holds Tryz.pinned (.plain (OpenSpec.ofChange polynomialTermsSpec)) polynomialTermsCard

/-- THE TIED CARD OF 'palmettelaw40.PolynomialRing'. -/
def polynomialRingCard : Claim7 := { stood := { row := polynomialRingRow, standIns := [], harness := (true, "4c7241f762aebecb2fea502cdf3403f06c706a04131e3f3d9b770a9c6a20e93c"), looks := true }, kinds := [], alts := [], laidByText := true, laidKinds := [.data, .data, .data, .data, .sentinel, .sentinel, .pinned], laidTests := true, laidLooks := .later }
def PolynomialRingCardSaid : Prop := Claim7.holds Tryz.pinned (.plain (OpenSpec.ofChange polynomialRingSpec)) polynomialRingCard

/-- THE TIED CARD OF 'palmettelaw40.PolynomialDerivative'. -/
def polynomialDerivativeCard : Claim7 := { stood := { row := polynomialDerivativeRow, standIns := [], harness := (true, "4c7241f762aebecb2fea502cdf3403f06c706a04131e3f3d9b770a9c6a20e93c"), looks := true }, kinds := [], alts := [], laidByText := true, laidKinds := [.data, .data, .data, .data, .sentinel, .sentinel, .pinned], laidTests := true, laidLooks := .later }
def PolynomialDerivativeCardSaid : Prop := Claim7.holds Tryz.pinned (.plain (OpenSpec.ofChange polynomialDerivativeSpec)) polynomialDerivativeCard

/-- THE TIED CARD OF 'palmettelaw40.PolynomialCoefficients'. -/
def polynomialCoefficientsCard : Claim7 := { stood := { row := polynomialCoefficientsRow, standIns := [], harness := (true, "4c7241f762aebecb2fea502cdf3403f06c706a04131e3f3d9b770a9c6a20e93c"), looks := true }, kinds := [], alts := [], laidByText := true, laidKinds := [.data, .data, .data, .data, .sentinel, .sentinel, .pinned], laidTests := true, laidLooks := .later }
def PolynomialCoefficientsCardSaid : Prop := Claim7.holds Tryz.pinned (.plain (OpenSpec.ofChange polynomialCoefficientsSpec)) polynomialCoefficientsCard

/-- THE SECOND FORM's CARD OF 'palmettelaw40.PolynomialParse'. -/
def polynomialParseUptoCard : Claim7 := { stood := { row := polynomialParseUptoRow, standIns := [], harness := (true, "4c7241f762aebecb2fea502cdf3403f06c706a04131e3f3d9b770a9c6a20e93c"), looks := true }, kinds := [], alts := [], laidByText := true, laidKinds := [.data, .data, .data, .data, .sentinel, .sentinel, .pinned], laidTests := true, laidLooks := .later }
def PolynomialParseUptoCardSaid : Prop := Claim7.holds Tryz.pinned (.plain (OpenSpec.upto polynomialParseSpec)) polynomialParseUptoCard

/-- THE SECOND FORM's CARD OF 'palmettelaw40.PolynomialSumProduct'. -/
def polynomialSumProductUptoCard : Claim7 := { stood := { row := polynomialSumProductUptoRow, standIns := [], harness := (true, "4c7241f762aebecb2fea502cdf3403f06c706a04131e3f3d9b770a9c6a20e93c"), looks := true }, kinds := [], alts := [], laidByText := true, laidKinds := [.data, .data, .data, .data, .sentinel, .sentinel, .pinned], laidTests := true, laidLooks := .later }
def PolynomialSumProductUptoCardSaid : Prop := Claim7.holds Tryz.pinned (.plain (OpenSpec.upto polynomialSumProductSpec)) polynomialSumProductUptoCard

/-- THE SECOND FORM's CARD OF 'palmettelaw40.PolynomialSemiring'. -/
def polynomialSemiringUptoCard : Claim7 := { stood := { row := polynomialSemiringUptoRow, standIns := [], harness := (true, "4c7241f762aebecb2fea502cdf3403f06c706a04131e3f3d9b770a9c6a20e93c"), looks := true }, kinds := [], alts := [], laidByText := true, laidKinds := [.data, .data, .data, .data, .sentinel, .sentinel, .pinned], laidTests := true, laidLooks := .later }
def PolynomialSemiringUptoCardSaid : Prop := Claim7.holds Tryz.pinned (.plain (OpenSpec.upto polynomialSemiringSpec)) polynomialSemiringUptoCard

/-- THE SECOND FORM's CARD OF 'palmettelaw40.PolynomialEval'. -/
def polynomialEvalUptoCard : Claim7 := { stood := { row := polynomialEvalUptoRow, standIns := [], harness := (true, "4c7241f762aebecb2fea502cdf3403f06c706a04131e3f3d9b770a9c6a20e93c"), looks := true }, kinds := [], alts := [], laidByText := true, laidKinds := [.data, .data, .data, .data, .sentinel, .sentinel, .pinned], laidTests := true, laidLooks := .later }
def PolynomialEvalUptoCardSaid : Prop := Claim7.holds Tryz.pinned (.plain (OpenSpec.upto polynomialEvalSpec)) polynomialEvalUptoCard

/-- THE SECOND FORM's CARD OF 'palmettelaw40.PolynomialTexts'. -/
def polynomialTextsUptoCard : Claim7 := { stood := { row := polynomialTextsUptoRow, standIns := [], harness := (true, "4c7241f762aebecb2fea502cdf3403f06c706a04131e3f3d9b770a9c6a20e93c"), looks := true }, kinds := [], alts := [], laidByText := true, laidKinds := [.data, .data, .data, .data, .sentinel, .sentinel, .pinned], laidTests := true, laidLooks := .later }
def PolynomialTextsUptoCardSaid : Prop := Claim7.holds Tryz.pinned (.plain (OpenSpec.upto polynomialTextsSpec)) polynomialTextsUptoCard

/-- THE SECOND FORM's CARD OF 'palmettelaw40.PolynomialTerms'. -/
def polynomialTermsUptoCard : Claim7 := { stood := { row := polynomialTermsUptoRow, standIns := [], harness := (true, "4c7241f762aebecb2fea502cdf3403f06c706a04131e3f3d9b770a9c6a20e93c"), looks := true }, kinds := [], alts := [], laidByText := true, laidKinds := [.data, .data, .data, .data, .sentinel, .sentinel, .pinned], laidTests := true, laidLooks := .later }
def PolynomialTermsUptoCardSaid : Prop := Claim7.holds Tryz.pinned (.plain (OpenSpec.upto polynomialTermsSpec)) polynomialTermsUptoCard

/-- THE SECOND FORM's CARD OF 'palmettelaw40.PolynomialRing'. -/
def polynomialRingUptoCard : Claim7 := { stood := { row := polynomialRingUptoRow, standIns := [], harness := (true, "4c7241f762aebecb2fea502cdf3403f06c706a04131e3f3d9b770a9c6a20e93c"), looks := true }, kinds := [], alts := [], laidByText := true, laidKinds := [.data, .data, .data, .data, .sentinel, .sentinel, .pinned], laidTests := true, laidLooks := .later }
def PolynomialRingUptoCardSaid : Prop := Claim7.holds Tryz.pinned (.plain (OpenSpec.upto polynomialRingSpec)) polynomialRingUptoCard

/-- THE SECOND FORM's CARD OF 'palmettelaw40.PolynomialDerivative'. -/
def polynomialDerivativeUptoCard : Claim7 := { stood := { row := polynomialDerivativeUptoRow, standIns := [], harness := (true, "4c7241f762aebecb2fea502cdf3403f06c706a04131e3f3d9b770a9c6a20e93c"), looks := true }, kinds := [], alts := [], laidByText := true, laidKinds := [.data, .data, .data, .data, .sentinel, .sentinel, .pinned], laidTests := true, laidLooks := .later }
def PolynomialDerivativeUptoCardSaid : Prop := Claim7.holds Tryz.pinned (.plain (OpenSpec.upto polynomialDerivativeSpec)) polynomialDerivativeUptoCard

/-- THE SECOND FORM's CARD OF 'palmettelaw40.PolynomialCoefficients'. -/
def polynomialCoefficientsUptoCard : Claim7 := { stood := { row := polynomialCoefficientsUptoRow, standIns := [], harness := (true, "4c7241f762aebecb2fea502cdf3403f06c706a04131e3f3d9b770a9c6a20e93c"), looks := true }, kinds := [], alts := [], laidByText := true, laidKinds := [.data, .data, .data, .data, .sentinel, .sentinel, .pinned], laidTests := true, laidLooks := .later }
def PolynomialCoefficientsUptoCardSaid : Prop := Claim7.holds Tryz.pinned (.plain (OpenSpec.upto polynomialCoefficientsSpec)) polynomialCoefficientsUptoCard
end Rows
end Go.Proofs.YtlcpdkckldlceaaGreatDoor
