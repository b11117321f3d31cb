/-
  DERIVED. GIVEN WITH THE SEED: THE CARDS: each row of YtiehmnjjlbndlaaGreatDoorRows.lean that lists a variable, with what it lists TIED to the program's text (the seventh form; the later family's looks); each row that meets fmt, with fmt's text TOLD by the authors' own Lean function (tested against real Go, not proved from fmt's source: count such statements apart). THE CARD IS WHAT COUNTS. Prove the row's statement (the work); the ties are given (YtiehmnjjlbndlaaGreatDoorTie.lean); close each card by the builder's one call (the guide's Derived/Test/ToyasCard.lean, 'card_holds'). Laid BY PROGRAM, IN A SANDBOX (cutbox-door.mjs). By AI agents, Wed Nov 11 2026. No macro, syntax, notation, axiom, sorry.
-/
import Derived.Test.YtiehmnjjlbndlaaGreatDoorRows
import GoSem.ClaimSeven
namespace Go.Proofs.YtiehmnjjlbndlaaGreatDoor
namespace Rows

/-- THE TIED CARD OF 'custodylaw40.LogBinds'. -/
def logBindsCard : Claim7 := { stood := { row := logBindsRow, standIns := [], harness := (true, "cd3f66b7d48128055bed8605adc1c68830f8aaefdafd1e6daa3d5726c6889681"), looks := false }, kinds := [], alts := [], laidByText := true, laidKinds := [.data, .data, .data, .data], laidTests := true, laidLooks := .later }
def LogBindsCardSaid : Prop := Claim7.holds Tryz.pinned (.plain (OpenSpec.ofChange logBindsSpec)) logBindsCard

/-- THE SECOND FORM's CARD OF 'custodylaw40.LogBinds'. -/
def logBindsUptoCard : Claim7 := { stood := { row := logBindsUptoRow, standIns := [], harness := (true, "cd3f66b7d48128055bed8605adc1c68830f8aaefdafd1e6daa3d5726c6889681"), looks := false }, kinds := [], alts := [], laidByText := true, laidKinds := [.data, .data, .data, .data], laidTests := true, laidLooks := .later }
def LogBindsUptoCardSaid : Prop := Claim7.holds Tryz.pinned (.plain (OpenSpec.upto logBindsSpec)) logBindsUptoCard
end Rows
end Go.Proofs.YtiehmnjjlbndlaaGreatDoor
