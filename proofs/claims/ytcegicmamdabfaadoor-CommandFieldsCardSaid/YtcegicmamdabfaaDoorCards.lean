/-
  DERIVED. GIVEN WITH THE SEED: THE CARDS: each row of YtcegicmamdabfaaDoorRows.lean that lists a variable, with what it lists TIED to the program's text (the seventh form; the later family's looks); each row that meets fmt, with fmt's text TOLD by the authors' own Lean function (tested against real Go, not proved from fmt's source: count such statements apart). THE CARD IS WHAT COUNTS. Prove the row's statement (the work); the ties are given (YtcegicmamdabfaaDoorTie.lean); close each card by the builder's one call (the guide's Derived/Test/ToyasCard.lean, 'card_holds'). Laid BY PROGRAM, IN A SANDBOX (cutbox-door.mjs). By AI agents, Wed Nov 11 2026. No macro, syntax, notation, axiom, sorry.
-/
import Derived.Test.YtcegicmamdabfaaDoorRows
import GoSem.ClaimSeven
namespace Go.Proofs.YtcegicmamdabfaaDoor
namespace Rows

/-- THE TIED CARD OF 'custodylaw28.CommandMatchesSpec'. -/
def commandMatchesSpecCard : Claim7 := { stood := { row := commandMatchesSpecRow, standIns := [], harness := (true, "0663071f1bedf0d0aaf10cafefc6471983d78f48b13f8f571b9b21055de2732c"), looks := false }, kinds := [], alts := [], laidByText := true, laidKinds := [.data, .data, .widerDeep], laidTests := true, laidLooks := .later }
def CommandMatchesSpecCardSaid : Prop := Claim7.holds Tryd.pinned (.plain (OpenSpec.ofChange commandMatchesSpecSpec)) commandMatchesSpecCard

/-- THE TIED CARD OF 'custodylaw28.CommandDecodesAsSpecified'. -/
def commandDecodesAsSpecifiedCard : Claim7 := { stood := { row := commandDecodesAsSpecifiedRow, standIns := [], harness := (true, "0663071f1bedf0d0aaf10cafefc6471983d78f48b13f8f571b9b21055de2732c"), looks := false }, kinds := [], alts := [], laidByText := true, laidKinds := [.data, .data, .widerDeep], laidTests := true, laidLooks := .later }
def CommandDecodesAsSpecifiedCardSaid : Prop := Claim7.holds Tryd.pinned (.plain (OpenSpec.ofChange commandDecodesAsSpecifiedSpec)) commandDecodesAsSpecifiedCard

/-- THE TIED CARD OF 'custodylaw28.CommandRoundTrip'. -/
def commandRoundTripCard : Claim7 := { stood := { row := commandRoundTripRow, standIns := [], harness := (true, "0663071f1bedf0d0aaf10cafefc6471983d78f48b13f8f571b9b21055de2732c"), looks := false }, kinds := [], alts := [], laidByText := true, laidKinds := [.data, .data, .widerDeep], laidTests := true, laidLooks := .later }
def CommandRoundTripCardSaid : Prop := Claim7.holds Tryd.pinned (.plain (OpenSpec.ofChange commandRoundTripSpec)) commandRoundTripCard

/-- THE TIED CARD OF 'custodylaw28.CommandInjective'. -/
def commandInjectiveCard : Claim7 := { stood := { row := commandInjectiveRow, standIns := [], harness := (true, "0663071f1bedf0d0aaf10cafefc6471983d78f48b13f8f571b9b21055de2732c"), looks := false }, kinds := [], alts := [], laidByText := true, laidKinds := [.data, .data, .widerDeep], laidTests := true, laidLooks := .later }
def CommandInjectiveCardSaid : Prop := Claim7.holds Tryd.pinned (.plain (OpenSpec.ofChange commandInjectiveSpec)) commandInjectiveCard

/-- THE TIED CARD OF 'custodylaw28.CommandFields'. -/
def commandFieldsCard : Claim7 := { stood := { row := commandFieldsRow, standIns := [], harness := (true, "0663071f1bedf0d0aaf10cafefc6471983d78f48b13f8f571b9b21055de2732c"), looks := false }, kinds := [], alts := [], laidByText := true, laidKinds := [.data, .data, .widerDeep], laidTests := true, laidLooks := .later }
def CommandFieldsCardSaid : Prop := Claim7.holds Tryd.pinned (.plain (OpenSpec.ofChange commandFieldsSpec)) commandFieldsCard

/-- THE TIED CARD OF 'custodylaw28.CommandNames'. -/
def commandNamesCard : Claim7 := { stood := { row := commandNamesRow, standIns := [], harness := (true, "0663071f1bedf0d0aaf10cafefc6471983d78f48b13f8f571b9b21055de2732c"), looks := false }, kinds := [], alts := [], laidByText := true, laidKinds := [.data, .data, .widerDeep], laidTests := true, laidLooks := .later }
def CommandNamesCardSaid : Prop := Claim7.holds Tryd.pinned (.plain (OpenSpec.ofChange commandNamesSpec)) commandNamesCard

/-- THE SECOND FORM's CARD OF 'custodylaw28.CommandMatchesSpec'. -/
def commandMatchesSpecUptoCard : Claim7 := { stood := { row := commandMatchesSpecUptoRow, standIns := [], harness := (true, "0663071f1bedf0d0aaf10cafefc6471983d78f48b13f8f571b9b21055de2732c"), looks := false }, kinds := [], alts := [], laidByText := true, laidKinds := [.data, .data, .widerDeep], laidTests := true, laidLooks := .later }
def CommandMatchesSpecUptoCardSaid : Prop := Claim7.holds Tryd.pinned (.plain (OpenSpec.upto commandMatchesSpecSpec)) commandMatchesSpecUptoCard

/-- THE SECOND FORM's CARD OF 'custodylaw28.CommandDecodesAsSpecified'. -/
def commandDecodesAsSpecifiedUptoCard : Claim7 := { stood := { row := commandDecodesAsSpecifiedUptoRow, standIns := [], harness := (true, "0663071f1bedf0d0aaf10cafefc6471983d78f48b13f8f571b9b21055de2732c"), looks := false }, kinds := [], alts := [], laidByText := true, laidKinds := [.data, .data, .widerDeep], laidTests := true, laidLooks := .later }
def CommandDecodesAsSpecifiedUptoCardSaid : Prop := Claim7.holds Tryd.pinned (.plain (OpenSpec.upto commandDecodesAsSpecifiedSpec)) commandDecodesAsSpecifiedUptoCard

/-- THE SECOND FORM's CARD OF 'custodylaw28.CommandRoundTrip'. -/
def commandRoundTripUptoCard : Claim7 := { stood := { row := commandRoundTripUptoRow, standIns := [], harness := (true, "0663071f1bedf0d0aaf10cafefc6471983d78f48b13f8f571b9b21055de2732c"), looks := false }, kinds := [], alts := [], laidByText := true, laidKinds := [.data, .data, .widerDeep], laidTests := true, laidLooks := .later }
def CommandRoundTripUptoCardSaid : Prop := Claim7.holds Tryd.pinned (.plain (OpenSpec.upto commandRoundTripSpec)) commandRoundTripUptoCard

/-- THE SECOND FORM's CARD OF 'custodylaw28.CommandInjective'. -/
def commandInjectiveUptoCard : Claim7 := { stood := { row := commandInjectiveUptoRow, standIns := [], harness := (true, "0663071f1bedf0d0aaf10cafefc6471983d78f48b13f8f571b9b21055de2732c"), looks := false }, kinds := [], alts := [], laidByText := true, laidKinds := [.data, .data, .widerDeep], laidTests := true, laidLooks := .later }
def CommandInjectiveUptoCardSaid : Prop := Claim7.holds Tryd.pinned (.plain (OpenSpec.upto commandInjectiveSpec)) commandInjectiveUptoCard

/-- THE SECOND FORM's CARD OF 'custodylaw28.CommandFields'. -/
def commandFieldsUptoCard : Claim7 := { stood := { row := commandFieldsUptoRow, standIns := [], harness := (true, "0663071f1bedf0d0aaf10cafefc6471983d78f48b13f8f571b9b21055de2732c"), looks := false }, kinds := [], alts := [], laidByText := true, laidKinds := [.data, .data, .widerDeep], laidTests := true, laidLooks := .later }
def CommandFieldsUptoCardSaid : Prop := Claim7.holds Tryd.pinned (.plain (OpenSpec.upto commandFieldsSpec)) commandFieldsUptoCard

/-- THE SECOND FORM's CARD OF 'custodylaw28.CommandNames'. -/
def commandNamesUptoCard : Claim7 := { stood := { row := commandNamesUptoRow, standIns := [], harness := (true, "0663071f1bedf0d0aaf10cafefc6471983d78f48b13f8f571b9b21055de2732c"), looks := false }, kinds := [], alts := [], laidByText := true, laidKinds := [.data, .data, .widerDeep], laidTests := true, laidLooks := .later }
def CommandNamesUptoCardSaid : Prop := Claim7.holds Tryd.pinned (.plain (OpenSpec.upto commandNamesSpec)) commandNamesUptoCard
end Rows
end Go.Proofs.YtcegicmamdabfaaDoor
