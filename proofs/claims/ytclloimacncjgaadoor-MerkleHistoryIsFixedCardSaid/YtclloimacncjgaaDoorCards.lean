/-
  DERIVED. GIVEN WITH THE SEED: THE CARDS: each row of YtclloimacncjgaaDoorRows.lean that lists a variable, with what it lists TIED to the program's text (the seventh form; the later family's looks); each row that meets fmt, with fmt's text TOLD by the authors' own Lean function (tested against real Go, not proved from fmt's source: count such statements apart). THE CARD IS WHAT COUNTS. Prove the row's statement (the work); the ties are given (YtclloimacncjgaaDoorTie.lean); close each card by the builder's one call (the guide's Derived/Test/ToyasCard.lean, 'card_holds'). Laid BY PROGRAM, IN A SANDBOX (cutbox-door.mjs). By AI agents, Wed Nov 11 2026. No macro, syntax, notation, axiom, sorry.
-/
import Derived.Test.YtclloimacncjgaaDoorRows
import GoSem.ClaimSeven
namespace Go.Proofs.YtclloimacncjgaaDoor
namespace Rows

/-- THE TIED CARD OF 'custodylaw08.MerkleTreesMatchSpec'. -/
def merkleTreesMatchSpecCard : Claim7 := { stood := { row := merkleTreesMatchSpecRow, standIns := [], harness := (true, "844a4e3f30365311fa3135f8047c3420fb2662b986033290d9a2b17e25a80423"), looks := false }, kinds := [], alts := [], laidByText := true, laidKinds := [.data, .data, .data, .data], laidTests := true, laidLooks := .later }
def MerkleTreesMatchSpecCardSaid : Prop := Claim7.holds Tryd.pinned (.plain (OpenSpec.ofChange merkleTreesMatchSpecSpec)) merkleTreesMatchSpecCard

/-- THE TIED CARD OF 'custodylaw08.MerkleVerifyMatchesSpec'. -/
def merkleVerifyMatchesSpecCard : Claim7 := { stood := { row := merkleVerifyMatchesSpecRow, standIns := [], harness := (true, "844a4e3f30365311fa3135f8047c3420fb2662b986033290d9a2b17e25a80423"), looks := false }, kinds := [], alts := [], laidByText := true, laidKinds := [.data, .data, .data, .data], laidTests := true, laidLooks := .later }
def MerkleVerifyMatchesSpecCardSaid : Prop := Claim7.holds Tryd.pinned (.plain (OpenSpec.ofChange merkleVerifyMatchesSpecSpec)) merkleVerifyMatchesSpecCard

/-- THE TIED CARD OF 'custodylaw08.MerkleProofsAreAccepted'. -/
def merkleProofsAreAcceptedCard : Claim7 := { stood := { row := merkleProofsAreAcceptedRow, standIns := [], harness := (true, "844a4e3f30365311fa3135f8047c3420fb2662b986033290d9a2b17e25a80423"), looks := false }, kinds := [], alts := [], laidByText := true, laidKinds := [.data, .data, .data], laidTests := true, laidLooks := .later }
def MerkleProofsAreAcceptedCardSaid : Prop := Claim7.holds Tryd.pinned (.plain (OpenSpec.ofChange merkleProofsAreAcceptedSpec)) merkleProofsAreAcceptedCard

/-- THE TIED CARD OF 'custodylaw08.MerkleClashMatchesSpec'. -/
def merkleClashMatchesSpecCard : Claim7 := { stood := { row := merkleClashMatchesSpecRow, standIns := [], harness := (true, "844a4e3f30365311fa3135f8047c3420fb2662b986033290d9a2b17e25a80423"), looks := false }, kinds := [], alts := [], laidByText := true, laidKinds := [.data, .data, .data, .data], laidTests := true, laidLooks := .later }
def MerkleClashMatchesSpecCardSaid : Prop := Claim7.holds Tryd.pinned (.plain (OpenSpec.ofChange merkleClashMatchesSpecSpec)) merkleClashMatchesSpecCard

/-- THE TIED CARD OF 'custodylaw08.MerkleHistoryIsFixed'. -/
def merkleHistoryIsFixedCard : Claim7 := { stood := { row := merkleHistoryIsFixedRow, standIns := [], harness := (true, "844a4e3f30365311fa3135f8047c3420fb2662b986033290d9a2b17e25a80423"), looks := false }, kinds := [], alts := [], laidByText := true, laidKinds := [.data, .data, .data, .data], laidTests := true, laidLooks := .later }
def MerkleHistoryIsFixedCardSaid : Prop := Claim7.holds Tryd.pinned (.plain (OpenSpec.ofChange merkleHistoryIsFixedSpec)) merkleHistoryIsFixedCard

/-- THE TIED CARD OF 'custodylaw08.MerklePeaksGrow'. -/
def merklePeaksGrowCard : Claim7 := { stood := { row := merklePeaksGrowRow, standIns := [], harness := (true, "844a4e3f30365311fa3135f8047c3420fb2662b986033290d9a2b17e25a80423"), looks := false }, kinds := [], alts := [], laidByText := true, laidKinds := [.data, .data, .data, .data], laidTests := true, laidLooks := .later }
def MerklePeaksGrowCardSaid : Prop := Claim7.holds Tryd.pinned (.plain (OpenSpec.ofChange merklePeaksGrowSpec)) merklePeaksGrowCard

/-- THE TIED CARD OF 'custodylaw08.MerklePeaksMatchSpec'. -/
def merklePeaksMatchSpecCard : Claim7 := { stood := { row := merklePeaksMatchSpecRow, standIns := [], harness := (true, "844a4e3f30365311fa3135f8047c3420fb2662b986033290d9a2b17e25a80423"), looks := false }, kinds := [], alts := [], laidByText := true, laidKinds := [.data, .data, .data, .data], laidTests := true, laidLooks := .later }
def MerklePeaksMatchSpecCardSaid : Prop := Claim7.holds Tryd.pinned (.plain (OpenSpec.ofChange merklePeaksMatchSpecSpec)) merklePeaksMatchSpecCard

/-- THE SECOND FORM's CARD OF 'custodylaw08.MerkleTreesMatchSpec'. -/
def merkleTreesMatchSpecUptoCard : Claim7 := { stood := { row := merkleTreesMatchSpecUptoRow, standIns := [], harness := (true, "844a4e3f30365311fa3135f8047c3420fb2662b986033290d9a2b17e25a80423"), looks := false }, kinds := [], alts := [], laidByText := true, laidKinds := [.data, .data, .data, .data], laidTests := true, laidLooks := .later }
def MerkleTreesMatchSpecUptoCardSaid : Prop := Claim7.holds Tryd.pinned (.plain (OpenSpec.upto merkleTreesMatchSpecSpec)) merkleTreesMatchSpecUptoCard

/-- THE SECOND FORM's CARD OF 'custodylaw08.MerkleVerifyMatchesSpec'. -/
def merkleVerifyMatchesSpecUptoCard : Claim7 := { stood := { row := merkleVerifyMatchesSpecUptoRow, standIns := [], harness := (true, "844a4e3f30365311fa3135f8047c3420fb2662b986033290d9a2b17e25a80423"), looks := false }, kinds := [], alts := [], laidByText := true, laidKinds := [.data, .data, .data, .data], laidTests := true, laidLooks := .later }
def MerkleVerifyMatchesSpecUptoCardSaid : Prop := Claim7.holds Tryd.pinned (.plain (OpenSpec.upto merkleVerifyMatchesSpecSpec)) merkleVerifyMatchesSpecUptoCard

/-- THE SECOND FORM's CARD OF 'custodylaw08.MerkleProofsAreAccepted'. -/
def merkleProofsAreAcceptedUptoCard : Claim7 := { stood := { row := merkleProofsAreAcceptedUptoRow, standIns := [], harness := (true, "844a4e3f30365311fa3135f8047c3420fb2662b986033290d9a2b17e25a80423"), looks := false }, kinds := [], alts := [], laidByText := true, laidKinds := [.data, .data, .data], laidTests := true, laidLooks := .later }
def MerkleProofsAreAcceptedUptoCardSaid : Prop := Claim7.holds Tryd.pinned (.plain (OpenSpec.upto merkleProofsAreAcceptedSpec)) merkleProofsAreAcceptedUptoCard

/-- THE SECOND FORM's CARD OF 'custodylaw08.MerkleClashMatchesSpec'. -/
def merkleClashMatchesSpecUptoCard : Claim7 := { stood := { row := merkleClashMatchesSpecUptoRow, standIns := [], harness := (true, "844a4e3f30365311fa3135f8047c3420fb2662b986033290d9a2b17e25a80423"), looks := false }, kinds := [], alts := [], laidByText := true, laidKinds := [.data, .data, .data, .data], laidTests := true, laidLooks := .later }
def MerkleClashMatchesSpecUptoCardSaid : Prop := Claim7.holds Tryd.pinned (.plain (OpenSpec.upto merkleClashMatchesSpecSpec)) merkleClashMatchesSpecUptoCard

/-- THE SECOND FORM's CARD OF 'custodylaw08.MerkleHistoryIsFixed'. -/
def merkleHistoryIsFixedUptoCard : Claim7 := { stood := { row := merkleHistoryIsFixedUptoRow, standIns := [], harness := (true, "844a4e3f30365311fa3135f8047c3420fb2662b986033290d9a2b17e25a80423"), looks := false }, kinds := [], alts := [], laidByText := true, laidKinds := [.data, .data, .data, .data], laidTests := true, laidLooks := .later }
def MerkleHistoryIsFixedUptoCardSaid : Prop := Claim7.holds Tryd.pinned (.plain (OpenSpec.upto merkleHistoryIsFixedSpec)) merkleHistoryIsFixedUptoCard

/-- THE SECOND FORM's CARD OF 'custodylaw08.MerklePeaksGrow'. -/
def merklePeaksGrowUptoCard : Claim7 := { stood := { row := merklePeaksGrowUptoRow, standIns := [], harness := (true, "844a4e3f30365311fa3135f8047c3420fb2662b986033290d9a2b17e25a80423"), looks := false }, kinds := [], alts := [], laidByText := true, laidKinds := [.data, .data, .data, .data], laidTests := true, laidLooks := .later }
def MerklePeaksGrowUptoCardSaid : Prop := Claim7.holds Tryd.pinned (.plain (OpenSpec.upto merklePeaksGrowSpec)) merklePeaksGrowUptoCard

/-- THE SECOND FORM's CARD OF 'custodylaw08.MerklePeaksMatchSpec'. -/
def merklePeaksMatchSpecUptoCard : Claim7 := { stood := { row := merklePeaksMatchSpecUptoRow, standIns := [], harness := (true, "844a4e3f30365311fa3135f8047c3420fb2662b986033290d9a2b17e25a80423"), looks := false }, kinds := [], alts := [], laidByText := true, laidKinds := [.data, .data, .data, .data], laidTests := true, laidLooks := .later }
def MerklePeaksMatchSpecUptoCardSaid : Prop := Claim7.holds Tryd.pinned (.plain (OpenSpec.upto merklePeaksMatchSpecSpec)) merklePeaksMatchSpecUptoCard
end Rows
end Go.Proofs.YtclloimacncjgaaDoor
