/-
  DERIVED. GIVEN WITH THE SEED: THE CARDS: each row of YtikmfgbgionjhaaDoorRows.lean that lists a variable, with what it lists TIED to the program's text (the seventh form; the later family's looks); each row that meets fmt, with fmt's text TOLD by the authors' own Lean function (tested against real Go, not proved from fmt's source: count such statements apart). THE CARD IS WHAT COUNTS. Prove the row's statement (the work); the ties are given (YtikmfgbgionjhaaDoorTie.lean); close each card by the builder's one call (the guide's Derived/Test/ToyasCard.lean, 'card_holds'). Laid BY PROGRAM, IN A SANDBOX (cutbox-door.mjs). By AI agents, Wed Nov 11 2026. No macro, syntax, notation, axiom, sorry.
-/
import Derived.Test.YtikmfgbgionjhaaDoorRows
import GoSem.ClaimSeven
namespace Go.Proofs.YtikmfgbgionjhaaDoor
namespace Rows

/-- THE TIED CARD OF 'custodylaw09.WotsMatchesSpec'. -/
def wotsMatchesSpecCard : Claim7 := { stood := { row := wotsMatchesSpecRow, standIns := [], harness := (true, "a38127ecd8477fb407a0887b44184289bd8a4db1574888ee044b53608e76a7b3"), looks := false }, kinds := [], alts := [], laidByText := true, laidKinds := [.data, .data], laidTests := true, laidLooks := .later }
def WotsMatchesSpecCardSaid : Prop := Claim7.holds Tryd.pinned (.plain (OpenSpec.ofChange wotsMatchesSpecSpec)) wotsMatchesSpecCard

/-- THE TIED CARD OF 'custodylaw09.WotsAdvance'. -/
def wotsAdvanceCard : Claim7 := { stood := { row := wotsAdvanceRow, standIns := [], harness := (true, "a38127ecd8477fb407a0887b44184289bd8a4db1574888ee044b53608e76a7b3"), looks := false }, kinds := [], alts := [], laidByText := true, laidKinds := [.data, .data], laidTests := true, laidLooks := .later }
def WotsAdvanceCardSaid : Prop := Claim7.holds Tryd.pinned (.plain (OpenSpec.ofChange wotsAdvanceSpec)) wotsAdvanceCard

/-- THE TIED CARD OF 'custodylaw09.WotsVerifies'. -/
def wotsVerifiesCard : Claim7 := { stood := { row := wotsVerifiesRow, standIns := [], harness := (true, "a38127ecd8477fb407a0887b44184289bd8a4db1574888ee044b53608e76a7b3"), looks := false }, kinds := [], alts := [], laidByText := true, laidKinds := [.data, .data], laidTests := true, laidLooks := .later }
def WotsVerifiesCardSaid : Prop := Claim7.holds Tryd.pinned (.plain (OpenSpec.ofChange wotsVerifiesSpec)) wotsVerifiesCard

/-- THE TIED CARD OF 'custodylaw09.WotsDigits'. -/
def wotsDigitsCard : Claim7 := { stood := { row := wotsDigitsRow, standIns := [], harness := (true, "a38127ecd8477fb407a0887b44184289bd8a4db1574888ee044b53608e76a7b3"), looks := false }, kinds := [], alts := [], laidByText := true, laidKinds := [.data], laidTests := true, laidLooks := .later }
def WotsDigitsCardSaid : Prop := Claim7.holds Tryd.pinned (.plain (OpenSpec.ofChange wotsDigitsSpec)) wotsDigitsCard

/-- THE TIED CARD OF 'custodylaw09.WotsBinds'. -/
def wotsBindsCard : Claim7 := { stood := { row := wotsBindsRow, standIns := [], harness := (true, "a38127ecd8477fb407a0887b44184289bd8a4db1574888ee044b53608e76a7b3"), looks := false }, kinds := [], alts := [], laidByText := true, laidKinds := [.data, .data], laidTests := true, laidLooks := .later }
def WotsBindsCardSaid : Prop := Claim7.holds Tryd.pinned (.plain (OpenSpec.ofChange wotsBindsSpec)) wotsBindsCard

/-- THE TIED CARD OF 'custodylaw09.WotsReveals'. -/
def wotsRevealsCard : Claim7 := { stood := { row := wotsRevealsRow, standIns := [], harness := (true, "a38127ecd8477fb407a0887b44184289bd8a4db1574888ee044b53608e76a7b3"), looks := false }, kinds := [], alts := [], laidByText := true, laidKinds := [.data], laidTests := true, laidLooks := .later }
def WotsRevealsCardSaid : Prop := Claim7.holds Tryd.pinned (.plain (OpenSpec.ofChange wotsRevealsSpec)) wotsRevealsCard

/-- THE SECOND FORM's CARD OF 'custodylaw09.WotsMatchesSpec'. -/
def wotsMatchesSpecUptoCard : Claim7 := { stood := { row := wotsMatchesSpecUptoRow, standIns := [], harness := (true, "a38127ecd8477fb407a0887b44184289bd8a4db1574888ee044b53608e76a7b3"), looks := false }, kinds := [], alts := [], laidByText := true, laidKinds := [.data, .data], laidTests := true, laidLooks := .later }
def WotsMatchesSpecUptoCardSaid : Prop := Claim7.holds Tryd.pinned (.plain (OpenSpec.upto wotsMatchesSpecSpec)) wotsMatchesSpecUptoCard

/-- THE SECOND FORM's CARD OF 'custodylaw09.WotsAdvance'. -/
def wotsAdvanceUptoCard : Claim7 := { stood := { row := wotsAdvanceUptoRow, standIns := [], harness := (true, "a38127ecd8477fb407a0887b44184289bd8a4db1574888ee044b53608e76a7b3"), looks := false }, kinds := [], alts := [], laidByText := true, laidKinds := [.data, .data], laidTests := true, laidLooks := .later }
def WotsAdvanceUptoCardSaid : Prop := Claim7.holds Tryd.pinned (.plain (OpenSpec.upto wotsAdvanceSpec)) wotsAdvanceUptoCard

/-- THE SECOND FORM's CARD OF 'custodylaw09.WotsVerifies'. -/
def wotsVerifiesUptoCard : Claim7 := { stood := { row := wotsVerifiesUptoRow, standIns := [], harness := (true, "a38127ecd8477fb407a0887b44184289bd8a4db1574888ee044b53608e76a7b3"), looks := false }, kinds := [], alts := [], laidByText := true, laidKinds := [.data, .data], laidTests := true, laidLooks := .later }
def WotsVerifiesUptoCardSaid : Prop := Claim7.holds Tryd.pinned (.plain (OpenSpec.upto wotsVerifiesSpec)) wotsVerifiesUptoCard

/-- THE SECOND FORM's CARD OF 'custodylaw09.WotsDigits'. -/
def wotsDigitsUptoCard : Claim7 := { stood := { row := wotsDigitsUptoRow, standIns := [], harness := (true, "a38127ecd8477fb407a0887b44184289bd8a4db1574888ee044b53608e76a7b3"), looks := false }, kinds := [], alts := [], laidByText := true, laidKinds := [.data], laidTests := true, laidLooks := .later }
def WotsDigitsUptoCardSaid : Prop := Claim7.holds Tryd.pinned (.plain (OpenSpec.upto wotsDigitsSpec)) wotsDigitsUptoCard

/-- THE SECOND FORM's CARD OF 'custodylaw09.WotsBinds'. -/
def wotsBindsUptoCard : Claim7 := { stood := { row := wotsBindsUptoRow, standIns := [], harness := (true, "a38127ecd8477fb407a0887b44184289bd8a4db1574888ee044b53608e76a7b3"), looks := false }, kinds := [], alts := [], laidByText := true, laidKinds := [.data, .data], laidTests := true, laidLooks := .later }
def WotsBindsUptoCardSaid : Prop := Claim7.holds Tryd.pinned (.plain (OpenSpec.upto wotsBindsSpec)) wotsBindsUptoCard

/-- THE SECOND FORM's CARD OF 'custodylaw09.WotsReveals'. -/
def wotsRevealsUptoCard : Claim7 := { stood := { row := wotsRevealsUptoRow, standIns := [], harness := (true, "a38127ecd8477fb407a0887b44184289bd8a4db1574888ee044b53608e76a7b3"), looks := false }, kinds := [], alts := [], laidByText := true, laidKinds := [.data], laidTests := true, laidLooks := .later }
def WotsRevealsUptoCardSaid : Prop := Claim7.holds Tryd.pinned (.plain (OpenSpec.upto wotsRevealsSpec)) wotsRevealsUptoCard
end Rows
end Go.Proofs.YtikmfgbgionjhaaDoor
