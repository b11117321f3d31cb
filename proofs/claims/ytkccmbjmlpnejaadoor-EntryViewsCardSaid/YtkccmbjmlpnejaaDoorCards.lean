/-
  DERIVED. GIVEN WITH THE SEED: THE CARDS: each row of YtkccmbjmlpnejaaDoorRows.lean that lists a variable, with what it lists TIED to the program's text (the seventh form; the later family's looks); each row that meets fmt, with fmt's text TOLD by the authors' own Lean function (tested against real Go, not proved from fmt's source: count such statements apart). THE CARD IS WHAT COUNTS. Prove the row's statement (the work); the ties are given (YtkccmbjmlpnejaaDoorTie.lean); close each card by the builder's one call (the guide's Derived/Test/ToyasCard.lean, 'card_holds'). Laid BY PROGRAM, IN A SANDBOX (cutbox-door.mjs). By AI agents, Wed Nov 11 2026. No macro, syntax, notation, axiom, sorry.
-/
import Derived.Test.YtkccmbjmlpnejaaDoorRows
import GoSem.ClaimSeven
namespace Go.Proofs.YtkccmbjmlpnejaaDoor
namespace Rows

/-- THE TIED CARD OF 'custodylaw39.EntryMatchesSpec'. -/
def entryMatchesSpecCard : Claim7 := { stood := { row := entryMatchesSpecRow, standIns := [], harness := (true, "ce8919096f3ff4f0628c7eac60a37db259c63955ab6a10f200f95f4ee628c87c"), looks := false }, kinds := [], alts := [], laidByText := true, laidKinds := [.data, .data], laidTests := true, laidLooks := .later }
def EntryMatchesSpecCardSaid : Prop := Claim7.holds Tryd.pinned (.plain (OpenSpec.ofChange entryMatchesSpecSpec)) entryMatchesSpecCard

/-- THE TIED CARD OF 'custodylaw39.EntryBinds'. -/
def entryBindsCard : Claim7 := { stood := { row := entryBindsRow, standIns := [], harness := (true, "ce8919096f3ff4f0628c7eac60a37db259c63955ab6a10f200f95f4ee628c87c"), looks := false }, kinds := [], alts := [], laidByText := true, laidKinds := [.data, .data], laidTests := true, laidLooks := .later }
def EntryBindsCardSaid : Prop := Claim7.holds Tryd.pinned (.plain (OpenSpec.ofChange entryBindsSpec)) entryBindsCard

/-- THE TIED CARD OF 'custodylaw39.EntryHidesData'. -/
def entryHidesDataCard : Claim7 := { stood := { row := entryHidesDataRow, standIns := [], harness := (true, "ce8919096f3ff4f0628c7eac60a37db259c63955ab6a10f200f95f4ee628c87c"), looks := false }, kinds := [], alts := [], laidByText := true, laidKinds := [.data, .data], laidTests := true, laidLooks := .later }
def EntryHidesDataCardSaid : Prop := Claim7.holds Tryd.pinned (.plain (OpenSpec.ofChange entryHidesDataSpec)) entryHidesDataCard

/-- THE TIED CARD OF 'custodylaw39.EntryApplies'. -/
def entryAppliesCard : Claim7 := { stood := { row := entryAppliesRow, standIns := [], harness := (true, "ce8919096f3ff4f0628c7eac60a37db259c63955ab6a10f200f95f4ee628c87c"), looks := false }, kinds := [], alts := [], laidByText := true, laidKinds := [.data, .data], laidTests := true, laidLooks := .later }
def EntryAppliesCardSaid : Prop := Claim7.holds Tryd.pinned (.plain (OpenSpec.ofChange entryAppliesSpec)) entryAppliesCard

/-- THE TIED CARD OF 'custodylaw39.EntryViews'. -/
def entryViewsCard : Claim7 := { stood := { row := entryViewsRow, standIns := [], harness := (true, "ce8919096f3ff4f0628c7eac60a37db259c63955ab6a10f200f95f4ee628c87c"), looks := false }, kinds := [], alts := [], laidByText := true, laidKinds := [.data, .data], laidTests := true, laidLooks := .later }
def EntryViewsCardSaid : Prop := Claim7.holds Tryd.pinned (.plain (OpenSpec.ofChange entryViewsSpec)) entryViewsCard

/-- THE SECOND FORM's CARD OF 'custodylaw39.EntryMatchesSpec'. -/
def entryMatchesSpecUptoCard : Claim7 := { stood := { row := entryMatchesSpecUptoRow, standIns := [], harness := (true, "ce8919096f3ff4f0628c7eac60a37db259c63955ab6a10f200f95f4ee628c87c"), looks := false }, kinds := [], alts := [], laidByText := true, laidKinds := [.data, .data], laidTests := true, laidLooks := .later }
def EntryMatchesSpecUptoCardSaid : Prop := Claim7.holds Tryd.pinned (.plain (OpenSpec.upto entryMatchesSpecSpec)) entryMatchesSpecUptoCard

/-- THE SECOND FORM's CARD OF 'custodylaw39.EntryBinds'. -/
def entryBindsUptoCard : Claim7 := { stood := { row := entryBindsUptoRow, standIns := [], harness := (true, "ce8919096f3ff4f0628c7eac60a37db259c63955ab6a10f200f95f4ee628c87c"), looks := false }, kinds := [], alts := [], laidByText := true, laidKinds := [.data, .data], laidTests := true, laidLooks := .later }
def EntryBindsUptoCardSaid : Prop := Claim7.holds Tryd.pinned (.plain (OpenSpec.upto entryBindsSpec)) entryBindsUptoCard

/-- THE SECOND FORM's CARD OF 'custodylaw39.EntryHidesData'. -/
def entryHidesDataUptoCard : Claim7 := { stood := { row := entryHidesDataUptoRow, standIns := [], harness := (true, "ce8919096f3ff4f0628c7eac60a37db259c63955ab6a10f200f95f4ee628c87c"), looks := false }, kinds := [], alts := [], laidByText := true, laidKinds := [.data, .data], laidTests := true, laidLooks := .later }
def EntryHidesDataUptoCardSaid : Prop := Claim7.holds Tryd.pinned (.plain (OpenSpec.upto entryHidesDataSpec)) entryHidesDataUptoCard

/-- THE SECOND FORM's CARD OF 'custodylaw39.EntryApplies'. -/
def entryAppliesUptoCard : Claim7 := { stood := { row := entryAppliesUptoRow, standIns := [], harness := (true, "ce8919096f3ff4f0628c7eac60a37db259c63955ab6a10f200f95f4ee628c87c"), looks := false }, kinds := [], alts := [], laidByText := true, laidKinds := [.data, .data], laidTests := true, laidLooks := .later }
def EntryAppliesUptoCardSaid : Prop := Claim7.holds Tryd.pinned (.plain (OpenSpec.upto entryAppliesSpec)) entryAppliesUptoCard

/-- THE SECOND FORM's CARD OF 'custodylaw39.EntryViews'. -/
def entryViewsUptoCard : Claim7 := { stood := { row := entryViewsUptoRow, standIns := [], harness := (true, "ce8919096f3ff4f0628c7eac60a37db259c63955ab6a10f200f95f4ee628c87c"), looks := false }, kinds := [], alts := [], laidByText := true, laidKinds := [.data, .data], laidTests := true, laidLooks := .later }
def EntryViewsUptoCardSaid : Prop := Claim7.holds Tryd.pinned (.plain (OpenSpec.upto entryViewsSpec)) entryViewsUptoCard
end Rows
end Go.Proofs.YtkccmbjmlpnejaaDoor
