/-
  DERIVED. GIVEN WITH THE SEED: THE CARDS: each row of YtofpocohihjddaaDoorRows.lean that lists a variable, with what it lists TIED to the program's text (the seventh form; the later family's looks); each row that meets fmt, with fmt's text TOLD by the authors' own Lean function (tested against real Go, not proved from fmt's source: count such statements apart). THE CARD IS WHAT COUNTS. Prove the row's statement (the work); the ties are given (YtofpocohihjddaaDoorTie.lean); close each card by the builder's one call (the guide's Derived/Test/ToyasCard.lean, 'card_holds'). Laid BY PROGRAM, IN A SANDBOX (cutbox-door.mjs). By AI agents, Wed Nov 11 2026. No macro, syntax, notation, axiom, sorry.
-/
import Derived.Test.YtofpocohihjddaaDoorRows
import GoSem.ClaimSeven
namespace Go.Proofs.YtofpocohihjddaaDoor
namespace Rows

/-- THE TIED CARD OF 'custodylaw05.KdfDeriveMatchesSpec'. -/
def kdfDeriveMatchesSpecCard : Claim7 := { stood := { row := kdfDeriveMatchesSpecRow, standIns := [], harness := (true, "1c184b98752a014913a882abd9390cfa5d4ca38864cb8aa0a6951fd94a1ffa0a"), looks := false }, kinds := [], alts := [], laidByText := true, laidKinds := [.data, .data], laidTests := true, laidLooks := .later }
def KdfDeriveMatchesSpecCardSaid : Prop := Claim7.holds Tryd.pinned (.plain (OpenSpec.ofChange kdfDeriveMatchesSpecSpec)) kdfDeriveMatchesSpecCard

/-- THE TIED CARD OF 'custodylaw05.KdfPathMatchesSpec'. -/
def kdfPathMatchesSpecCard : Claim7 := { stood := { row := kdfPathMatchesSpecRow, standIns := [], harness := (true, "1c184b98752a014913a882abd9390cfa5d4ca38864cb8aa0a6951fd94a1ffa0a"), looks := false }, kinds := [], alts := [], laidByText := true, laidKinds := [.data, .data], laidTests := true, laidLooks := .later }
def KdfPathMatchesSpecCardSaid : Prop := Claim7.holds Tryd.pinned (.plain (OpenSpec.ofChange kdfPathMatchesSpecSpec)) kdfPathMatchesSpecCard

/-- THE TIED CARD OF 'custodylaw05.KdfDeriveSeparates'. -/
def kdfDeriveSeparatesCard : Claim7 := { stood := { row := kdfDeriveSeparatesRow, standIns := [], harness := (true, "1c184b98752a014913a882abd9390cfa5d4ca38864cb8aa0a6951fd94a1ffa0a"), looks := false }, kinds := [], alts := [], laidByText := true, laidKinds := [.data, .data], laidTests := true, laidLooks := .later }
def KdfDeriveSeparatesCardSaid : Prop := Claim7.holds Tryd.pinned (.plain (OpenSpec.ofChange kdfDeriveSeparatesSpec)) kdfDeriveSeparatesCard

/-- THE TIED CARD OF 'custodylaw05.KdfRandomMatchesSpec'. -/
def kdfRandomMatchesSpecCard : Claim7 := { stood := { row := kdfRandomMatchesSpecRow, standIns := [], harness := (true, "1c184b98752a014913a882abd9390cfa5d4ca38864cb8aa0a6951fd94a1ffa0a"), looks := false }, kinds := [], alts := [], laidByText := true, laidKinds := [.data, .data], laidTests := true, laidLooks := .later }
def KdfRandomMatchesSpecCardSaid : Prop := Claim7.holds Tryd.pinned (.plain (OpenSpec.ofChange kdfRandomMatchesSpecSpec)) kdfRandomMatchesSpecCard

/-- THE TIED CARD OF 'custodylaw05.KdfBytesInParts'. -/
def kdfBytesInPartsCard : Claim7 := { stood := { row := kdfBytesInPartsRow, standIns := [], harness := (true, "1c184b98752a014913a882abd9390cfa5d4ca38864cb8aa0a6951fd94a1ffa0a"), looks := false }, kinds := [], alts := [], laidByText := true, laidKinds := [.data], laidTests := true, laidLooks := .later }
def KdfBytesInPartsCardSaid : Prop := Claim7.holds Tryd.pinned (.plain (OpenSpec.ofChange kdfBytesInPartsSpec)) kdfBytesInPartsCard

/-- THE TIED CARD OF 'custodylaw05.KdfNextIsDerived'. -/
def kdfNextIsDerivedCard : Claim7 := { stood := { row := kdfNextIsDerivedRow, standIns := [], harness := (true, "1c184b98752a014913a882abd9390cfa5d4ca38864cb8aa0a6951fd94a1ffa0a"), looks := false }, kinds := [], alts := [], laidByText := true, laidKinds := [.data], laidTests := true, laidLooks := .later }
def KdfNextIsDerivedCardSaid : Prop := Claim7.holds Tryd.pinned (.plain (OpenSpec.ofChange kdfNextIsDerivedSpec)) kdfNextIsDerivedCard

/-- THE SECOND FORM's CARD OF 'custodylaw05.KdfDeriveMatchesSpec'. -/
def kdfDeriveMatchesSpecUptoCard : Claim7 := { stood := { row := kdfDeriveMatchesSpecUptoRow, standIns := [], harness := (true, "1c184b98752a014913a882abd9390cfa5d4ca38864cb8aa0a6951fd94a1ffa0a"), looks := false }, kinds := [], alts := [], laidByText := true, laidKinds := [.data, .data], laidTests := true, laidLooks := .later }
def KdfDeriveMatchesSpecUptoCardSaid : Prop := Claim7.holds Tryd.pinned (.plain (OpenSpec.upto kdfDeriveMatchesSpecSpec)) kdfDeriveMatchesSpecUptoCard

/-- THE SECOND FORM's CARD OF 'custodylaw05.KdfPathMatchesSpec'. -/
def kdfPathMatchesSpecUptoCard : Claim7 := { stood := { row := kdfPathMatchesSpecUptoRow, standIns := [], harness := (true, "1c184b98752a014913a882abd9390cfa5d4ca38864cb8aa0a6951fd94a1ffa0a"), looks := false }, kinds := [], alts := [], laidByText := true, laidKinds := [.data, .data], laidTests := true, laidLooks := .later }
def KdfPathMatchesSpecUptoCardSaid : Prop := Claim7.holds Tryd.pinned (.plain (OpenSpec.upto kdfPathMatchesSpecSpec)) kdfPathMatchesSpecUptoCard

/-- THE SECOND FORM's CARD OF 'custodylaw05.KdfDeriveSeparates'. -/
def kdfDeriveSeparatesUptoCard : Claim7 := { stood := { row := kdfDeriveSeparatesUptoRow, standIns := [], harness := (true, "1c184b98752a014913a882abd9390cfa5d4ca38864cb8aa0a6951fd94a1ffa0a"), looks := false }, kinds := [], alts := [], laidByText := true, laidKinds := [.data, .data], laidTests := true, laidLooks := .later }
def KdfDeriveSeparatesUptoCardSaid : Prop := Claim7.holds Tryd.pinned (.plain (OpenSpec.upto kdfDeriveSeparatesSpec)) kdfDeriveSeparatesUptoCard

/-- THE SECOND FORM's CARD OF 'custodylaw05.KdfRandomMatchesSpec'. -/
def kdfRandomMatchesSpecUptoCard : Claim7 := { stood := { row := kdfRandomMatchesSpecUptoRow, standIns := [], harness := (true, "1c184b98752a014913a882abd9390cfa5d4ca38864cb8aa0a6951fd94a1ffa0a"), looks := false }, kinds := [], alts := [], laidByText := true, laidKinds := [.data, .data], laidTests := true, laidLooks := .later }
def KdfRandomMatchesSpecUptoCardSaid : Prop := Claim7.holds Tryd.pinned (.plain (OpenSpec.upto kdfRandomMatchesSpecSpec)) kdfRandomMatchesSpecUptoCard

/-- THE SECOND FORM's CARD OF 'custodylaw05.KdfBytesInParts'. -/
def kdfBytesInPartsUptoCard : Claim7 := { stood := { row := kdfBytesInPartsUptoRow, standIns := [], harness := (true, "1c184b98752a014913a882abd9390cfa5d4ca38864cb8aa0a6951fd94a1ffa0a"), looks := false }, kinds := [], alts := [], laidByText := true, laidKinds := [.data], laidTests := true, laidLooks := .later }
def KdfBytesInPartsUptoCardSaid : Prop := Claim7.holds Tryd.pinned (.plain (OpenSpec.upto kdfBytesInPartsSpec)) kdfBytesInPartsUptoCard

/-- THE SECOND FORM's CARD OF 'custodylaw05.KdfNextIsDerived'. -/
def kdfNextIsDerivedUptoCard : Claim7 := { stood := { row := kdfNextIsDerivedUptoRow, standIns := [], harness := (true, "1c184b98752a014913a882abd9390cfa5d4ca38864cb8aa0a6951fd94a1ffa0a"), looks := false }, kinds := [], alts := [], laidByText := true, laidKinds := [.data], laidTests := true, laidLooks := .later }
def KdfNextIsDerivedUptoCardSaid : Prop := Claim7.holds Tryd.pinned (.plain (OpenSpec.upto kdfNextIsDerivedSpec)) kdfNextIsDerivedUptoCard
end Rows
end Go.Proofs.YtofpocohihjddaaDoor
