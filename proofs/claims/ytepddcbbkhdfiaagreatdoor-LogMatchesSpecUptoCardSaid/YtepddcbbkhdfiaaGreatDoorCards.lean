/-
  DERIVED. GIVEN WITH THE SEED: THE CARDS: each row of YtepddcbbkhdfiaaGreatDoorRows.lean that lists a variable, with what it lists TIED to the program's text (the seventh form; the later family's looks); each row that meets fmt, with fmt's text TOLD by the authors' own Lean function (tested against real Go, not proved from fmt's source: count such statements apart). THE CARD IS WHAT COUNTS. Prove the row's statement (the work); the ties are given (YtepddcbbkhdfiaaGreatDoorTie.lean); close each card by the builder's one call (the guide's Derived/Test/ToyasCard.lean, 'card_holds'). Laid BY PROGRAM, IN A SANDBOX (cutbox-door.mjs). By AI agents, Wed Nov 11 2026. No macro, syntax, notation, axiom, sorry.
-/
import Derived.Test.YtepddcbbkhdfiaaGreatDoorRows
import GoSem.ClaimSeven
namespace Go.Proofs.YtepddcbbkhdfiaaGreatDoor
namespace Rows

/-- THE TIED CARD OF 'custodylaw40.LogExtends'. -/
def logExtendsCard : Claim7 := { stood := { row := logExtendsRow, standIns := [], harness := (true, "18eed6bbc216beda333ff36cb4bd17c93592d710d49e951fe7823e2f3a5557a8"), looks := false }, kinds := [], alts := [], laidByText := true, laidKinds := [.data, .data, .data, .data], laidTests := true, laidLooks := .later }
def LogExtendsCardSaid : Prop := Claim7.holds Tryz.pinned (.plain (OpenSpec.ofChange logExtendsSpec)) logExtendsCard

/-- THE TIED CARD OF 'custodylaw40.LogTrims'. -/
def logTrimsCard : Claim7 := { stood := { row := logTrimsRow, standIns := [], harness := (true, "18eed6bbc216beda333ff36cb4bd17c93592d710d49e951fe7823e2f3a5557a8"), looks := false }, kinds := [], alts := [], laidByText := true, laidKinds := [.data, .data, .data, .data], laidTests := true, laidLooks := .later }
def LogTrimsCardSaid : Prop := Claim7.holds Tryz.pinned (.plain (OpenSpec.ofChange logTrimsSpec)) logTrimsCard

/-- THE TIED CARD OF 'custodylaw40.LogMatchesSpec'. -/
def logMatchesSpecCard : Claim7 := { stood := { row := logMatchesSpecRow, standIns := [], harness := (true, "18eed6bbc216beda333ff36cb4bd17c93592d710d49e951fe7823e2f3a5557a8"), looks := false }, kinds := [], alts := [], laidByText := true, laidKinds := [.data, .data, .data, .data], laidTests := true, laidLooks := .later }
def LogMatchesSpecCardSaid : Prop := Claim7.holds Tryz.pinned (.plain (OpenSpec.ofChange logMatchesSpecSpec)) logMatchesSpecCard

/-- THE SECOND FORM's CARD OF 'custodylaw40.LogExtends'. -/
def logExtendsUptoCard : Claim7 := { stood := { row := logExtendsUptoRow, standIns := [], harness := (true, "18eed6bbc216beda333ff36cb4bd17c93592d710d49e951fe7823e2f3a5557a8"), looks := false }, kinds := [], alts := [], laidByText := true, laidKinds := [.data, .data, .data, .data], laidTests := true, laidLooks := .later }
def LogExtendsUptoCardSaid : Prop := Claim7.holds Tryz.pinned (.plain (OpenSpec.upto logExtendsSpec)) logExtendsUptoCard

/-- THE SECOND FORM's CARD OF 'custodylaw40.LogTrims'. -/
def logTrimsUptoCard : Claim7 := { stood := { row := logTrimsUptoRow, standIns := [], harness := (true, "18eed6bbc216beda333ff36cb4bd17c93592d710d49e951fe7823e2f3a5557a8"), looks := false }, kinds := [], alts := [], laidByText := true, laidKinds := [.data, .data, .data, .data], laidTests := true, laidLooks := .later }
def LogTrimsUptoCardSaid : Prop := Claim7.holds Tryz.pinned (.plain (OpenSpec.upto logTrimsSpec)) logTrimsUptoCard

/-- THE SECOND FORM's CARD OF 'custodylaw40.LogMatchesSpec'. -/
def logMatchesSpecUptoCard : Claim7 := { stood := { row := logMatchesSpecUptoRow, standIns := [], harness := (true, "18eed6bbc216beda333ff36cb4bd17c93592d710d49e951fe7823e2f3a5557a8"), looks := false }, kinds := [], alts := [], laidByText := true, laidKinds := [.data, .data, .data, .data], laidTests := true, laidLooks := .later }
def LogMatchesSpecUptoCardSaid : Prop := Claim7.holds Tryz.pinned (.plain (OpenSpec.upto logMatchesSpecSpec)) logMatchesSpecUptoCard
end Rows
end Go.Proofs.YtepddcbbkhdfiaaGreatDoor
