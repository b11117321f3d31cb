/-
  DERIVED. GIVEN WITH THE SEED: THE CARDS: each row of YtigghpdomoedhaaDoorRows.lean that lists a variable, with what it lists TIED to the program's text (the seventh form; the later family's looks); each row that meets fmt, with fmt's text TOLD by the authors' own Lean function (tested against real Go, not proved from fmt's source: count such statements apart). THE CARD IS WHAT COUNTS. Prove the row's statement (the work); the ties are given (YtigghpdomoedhaaDoorTie.lean); close each card by the builder's one call (the guide's Derived/Test/ToyasCard.lean, 'card_holds'). Laid BY PROGRAM, IN A SANDBOX (cutbox-door.mjs). By AI agents, Wed Nov 11 2026. No macro, syntax, notation, axiom, sorry.
-/
import Derived.Test.YtigghpdomoedhaaDoorRows
import GoSem.ClaimSeven
namespace Go.Proofs.YtigghpdomoedhaaDoor
namespace Rows

/-- THE TIED CARD OF 'custodylaw35.RotateKeyMatchesSpec'. -/
def rotateKeyMatchesSpecCard : Claim7 := { stood := { row := rotateKeyMatchesSpecRow, standIns := [], harness := (true, "901979c011d3f28050a5058074e8689c22e8803626543e848bc842ad9140a057"), looks := false }, kinds := [], alts := [], laidByText := true, laidKinds := [.data, .data, .data], laidTests := true, laidLooks := .later }
def RotateKeyMatchesSpecCardSaid : Prop := Claim7.holds Tryd.pinned (.plain (OpenSpec.ofChange rotateKeyMatchesSpecSpec)) rotateKeyMatchesSpecCard

/-- THE TIED CARD OF 'custodylaw35.RotateLinesMatchSpec'. -/
def rotateLinesMatchSpecCard : Claim7 := { stood := { row := rotateLinesMatchSpecRow, standIns := [], harness := (true, "901979c011d3f28050a5058074e8689c22e8803626543e848bc842ad9140a057"), looks := false }, kinds := [], alts := [], laidByText := true, laidKinds := [.data, .data], laidTests := true, laidLooks := .later }
def RotateLinesMatchSpecCardSaid : Prop := Claim7.holds Tryd.pinned (.plain (OpenSpec.ofChange rotateLinesMatchSpecSpec)) rotateLinesMatchSpecCard

/-- THE TIED CARD OF 'custodylaw35.RotateAllMatchesSpec'. -/
def rotateAllMatchesSpecCard : Claim7 := { stood := { row := rotateAllMatchesSpecRow, standIns := [], harness := (true, "901979c011d3f28050a5058074e8689c22e8803626543e848bc842ad9140a057"), looks := false }, kinds := [], alts := [], laidByText := true, laidKinds := [.data, .data, .data], laidTests := true, laidLooks := .later }
def RotateAllMatchesSpecCardSaid : Prop := Claim7.holds Tryd.pinned (.plain (OpenSpec.ofChange rotateAllMatchesSpecSpec)) rotateAllMatchesSpecCard

/-- THE TIED CARD OF 'custodylaw35.RotateKeepsTheRest'. -/
def rotateKeepsTheRestCard : Claim7 := { stood := { row := rotateKeepsTheRestRow, standIns := [], harness := (true, "901979c011d3f28050a5058074e8689c22e8803626543e848bc842ad9140a057"), looks := false }, kinds := [], alts := [], laidByText := true, laidKinds := [.data, .data], laidTests := true, laidLooks := .later }
def RotateKeepsTheRestCardSaid : Prop := Claim7.holds Tryd.pinned (.plain (OpenSpec.ofChange rotateKeepsTheRestSpec)) rotateKeepsTheRestCard

/-- THE TIED CARD OF 'custodylaw35.RotateLinesIncrease'. -/
def rotateLinesIncreaseCard : Claim7 := { stood := { row := rotateLinesIncreaseRow, standIns := [], harness := (true, "901979c011d3f28050a5058074e8689c22e8803626543e848bc842ad9140a057"), looks := false }, kinds := [], alts := [], laidByText := true, laidKinds := [.data, .data], laidTests := true, laidLooks := .later }
def RotateLinesIncreaseCardSaid : Prop := Claim7.holds Tryd.pinned (.plain (OpenSpec.ofChange rotateLinesIncreaseSpec)) rotateLinesIncreaseCard

/-- THE TIED CARD OF 'custodylaw35.RotateFreshKeys'. -/
def rotateFreshKeysCard : Claim7 := { stood := { row := rotateFreshKeysRow, standIns := [], harness := (true, "901979c011d3f28050a5058074e8689c22e8803626543e848bc842ad9140a057"), looks := false }, kinds := [], alts := [], laidByText := true, laidKinds := [.data, .data], laidTests := true, laidLooks := .later }
def RotateFreshKeysCardSaid : Prop := Claim7.holds Tryd.pinned (.plain (OpenSpec.ofChange rotateFreshKeysSpec)) rotateFreshKeysCard

/-- THE SECOND FORM's CARD OF 'custodylaw35.RotateKeyMatchesSpec'. -/
def rotateKeyMatchesSpecUptoCard : Claim7 := { stood := { row := rotateKeyMatchesSpecUptoRow, standIns := [], harness := (true, "901979c011d3f28050a5058074e8689c22e8803626543e848bc842ad9140a057"), looks := false }, kinds := [], alts := [], laidByText := true, laidKinds := [.data, .data, .data], laidTests := true, laidLooks := .later }
def RotateKeyMatchesSpecUptoCardSaid : Prop := Claim7.holds Tryd.pinned (.plain (OpenSpec.upto rotateKeyMatchesSpecSpec)) rotateKeyMatchesSpecUptoCard

/-- THE SECOND FORM's CARD OF 'custodylaw35.RotateLinesMatchSpec'. -/
def rotateLinesMatchSpecUptoCard : Claim7 := { stood := { row := rotateLinesMatchSpecUptoRow, standIns := [], harness := (true, "901979c011d3f28050a5058074e8689c22e8803626543e848bc842ad9140a057"), looks := false }, kinds := [], alts := [], laidByText := true, laidKinds := [.data, .data], laidTests := true, laidLooks := .later }
def RotateLinesMatchSpecUptoCardSaid : Prop := Claim7.holds Tryd.pinned (.plain (OpenSpec.upto rotateLinesMatchSpecSpec)) rotateLinesMatchSpecUptoCard

/-- THE SECOND FORM's CARD OF 'custodylaw35.RotateAllMatchesSpec'. -/
def rotateAllMatchesSpecUptoCard : Claim7 := { stood := { row := rotateAllMatchesSpecUptoRow, standIns := [], harness := (true, "901979c011d3f28050a5058074e8689c22e8803626543e848bc842ad9140a057"), looks := false }, kinds := [], alts := [], laidByText := true, laidKinds := [.data, .data, .data], laidTests := true, laidLooks := .later }
def RotateAllMatchesSpecUptoCardSaid : Prop := Claim7.holds Tryd.pinned (.plain (OpenSpec.upto rotateAllMatchesSpecSpec)) rotateAllMatchesSpecUptoCard

/-- THE SECOND FORM's CARD OF 'custodylaw35.RotateKeepsTheRest'. -/
def rotateKeepsTheRestUptoCard : Claim7 := { stood := { row := rotateKeepsTheRestUptoRow, standIns := [], harness := (true, "901979c011d3f28050a5058074e8689c22e8803626543e848bc842ad9140a057"), looks := false }, kinds := [], alts := [], laidByText := true, laidKinds := [.data, .data], laidTests := true, laidLooks := .later }
def RotateKeepsTheRestUptoCardSaid : Prop := Claim7.holds Tryd.pinned (.plain (OpenSpec.upto rotateKeepsTheRestSpec)) rotateKeepsTheRestUptoCard

/-- THE SECOND FORM's CARD OF 'custodylaw35.RotateLinesIncrease'. -/
def rotateLinesIncreaseUptoCard : Claim7 := { stood := { row := rotateLinesIncreaseUptoRow, standIns := [], harness := (true, "901979c011d3f28050a5058074e8689c22e8803626543e848bc842ad9140a057"), looks := false }, kinds := [], alts := [], laidByText := true, laidKinds := [.data, .data], laidTests := true, laidLooks := .later }
def RotateLinesIncreaseUptoCardSaid : Prop := Claim7.holds Tryd.pinned (.plain (OpenSpec.upto rotateLinesIncreaseSpec)) rotateLinesIncreaseUptoCard

/-- THE SECOND FORM's CARD OF 'custodylaw35.RotateFreshKeys'. -/
def rotateFreshKeysUptoCard : Claim7 := { stood := { row := rotateFreshKeysUptoRow, standIns := [], harness := (true, "901979c011d3f28050a5058074e8689c22e8803626543e848bc842ad9140a057"), looks := false }, kinds := [], alts := [], laidByText := true, laidKinds := [.data, .data], laidTests := true, laidLooks := .later }
def RotateFreshKeysUptoCardSaid : Prop := Claim7.holds Tryd.pinned (.plain (OpenSpec.upto rotateFreshKeysSpec)) rotateFreshKeysUptoCard
end Rows
end Go.Proofs.YtigghpdomoedhaaDoor
