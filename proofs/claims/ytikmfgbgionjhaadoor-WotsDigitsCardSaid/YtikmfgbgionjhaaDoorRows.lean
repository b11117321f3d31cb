/-
  NARROWER THAN 'FOR EVERY INPUT', by the rows' own cells (each row's printed sentence says how): WotsMatchesSpec: laid · WotsAdvance: laid · WotsVerifies: laid · WotsDigits: laid · WotsBinds: laid · WotsReveals: laid.
  DERIVED. THE GIVEN ROWS OF THIS SEAT. 6 by the template 'for every input the law returns true; each argument reads behind the call as it read before'; 0 by the template 'total and deterministic' (their statements: YtikmfgbgionjhaaDoorTotals.lean).
  GIVEN WITH THE SEED: the statements are not yours to turn. If you find one false, say at which input.
  Laid BY PROGRAM, IN A SANDBOX (cutbox-rows.mjs): the forced cells as the released guide's own fill.sh prints them over the translation 8c2abf0ef3dcc6b4… (all of the seat's roots in one cut). By AI agents, Wed Nov 11 2026. No macro, syntax, notation, axiom, sorry.
-/
import Derived.Test.YtikmfgbgionjhaaDoorChecked
import GoSem.Claim
import GoSem.ClaimJoined
import GoSem.ClaimMapViews
import Derived.JoinedTies
import Derived.KernelRfl
namespace Go.Proofs.YtikmfgbgionjhaaDoor
/- THE CELL 'sum', in the pinned program and in every row, IS THE sha256 OF THE DUMP (.gsa) THAT YtikmfgbgionjhaaDoorProg.lean LOADS. Nothing in Lean hashes anything: it is a label: what it is worth is what the hold of that sum in a sandbox is worth. -/
noncomputable def Tryd.pinned : Pinned := { name := "ytikmfgbgionjhaadoor", sum := "8c2abf0ef3dcc6b497d8c5382b60bfd4d10d45efd1a690c4e4a865a6d24d0fad", checked := Tryd.checked }
namespace Rows
def none {H : Type} : Left H := { results := [], args := [] }

/- WHAT THE LISTED PACKAGE-LEVEL VARIABLES READ AS WHEN THE CALL BEGINS. Each datum BY PROGRAM (the guide's laid-datum.mjs) off the statement by which the dump's own 'gosem.cut.vars' lays the variable. In a bare row this is a premise. The card (YtikmfgbgionjhaaDoorCards.lean) ties it to the program's text. -/
def laid_custody_custodyref02_constants {H : Type} : DataW H := .agg [.lit (.int .u32 1116352408), .lit (.int .u32 1899447441), .lit (.int .u32 3049323471), .lit (.int .u32 3921009573), .lit (.int .u32 961987163), .lit (.int .u32 1508970993), .lit (.int .u32 2453635748), .lit (.int .u32 2870763221), .lit (.int .u32 3624381080), .lit (.int .u32 310598401), .lit (.int .u32 607225278), .lit (.int .u32 1426881987), .lit (.int .u32 1925078388), .lit (.int .u32 2162078206), .lit (.int .u32 2614888103), .lit (.int .u32 3248222580), .lit (.int .u32 3835390401), .lit (.int .u32 4022224774), .lit (.int .u32 264347078), .lit (.int .u32 604807628), .lit (.int .u32 770255983), .lit (.int .u32 1249150122), .lit (.int .u32 1555081692), .lit (.int .u32 1996064986), .lit (.int .u32 2554220882), .lit (.int .u32 2821834349), .lit (.int .u32 2952996808), .lit (.int .u32 3210313671), .lit (.int .u32 3336571891), .lit (.int .u32 3584528711), .lit (.int .u32 113926993), .lit (.int .u32 338241895), .lit (.int .u32 666307205), .lit (.int .u32 773529912), .lit (.int .u32 1294757372), .lit (.int .u32 1396182291), .lit (.int .u32 1695183700), .lit (.int .u32 1986661051), .lit (.int .u32 2177026350), .lit (.int .u32 2456956037), .lit (.int .u32 2730485921), .lit (.int .u32 2820302411), .lit (.int .u32 3259730800), .lit (.int .u32 3345764771), .lit (.int .u32 3516065817), .lit (.int .u32 3600352804), .lit (.int .u32 4094571909), .lit (.int .u32 275423344), .lit (.int .u32 430227734), .lit (.int .u32 506948616), .lit (.int .u32 659060556), .lit (.int .u32 883997877), .lit (.int .u32 958139571), .lit (.int .u32 1322822218), .lit (.int .u32 1537002063), .lit (.int .u32 1747873779), .lit (.int .u32 1955562222), .lit (.int .u32 2024104815), .lit (.int .u32 2227730452), .lit (.int .u32 2361852424), .lit (.int .u32 2428436474), .lit (.int .u32 2756734187), .lit (.int .u32 3204031479), .lit (.int .u32 3329325298)]
def laid_custody_hash_constants {H : Type} : DataW H := .agg [.lit (.int .u32 1116352408), .lit (.int .u32 1899447441), .lit (.int .u32 3049323471), .lit (.int .u32 3921009573), .lit (.int .u32 961987163), .lit (.int .u32 1508970993), .lit (.int .u32 2453635748), .lit (.int .u32 2870763221), .lit (.int .u32 3624381080), .lit (.int .u32 310598401), .lit (.int .u32 607225278), .lit (.int .u32 1426881987), .lit (.int .u32 1925078388), .lit (.int .u32 2162078206), .lit (.int .u32 2614888103), .lit (.int .u32 3248222580), .lit (.int .u32 3835390401), .lit (.int .u32 4022224774), .lit (.int .u32 264347078), .lit (.int .u32 604807628), .lit (.int .u32 770255983), .lit (.int .u32 1249150122), .lit (.int .u32 1555081692), .lit (.int .u32 1996064986), .lit (.int .u32 2554220882), .lit (.int .u32 2821834349), .lit (.int .u32 2952996808), .lit (.int .u32 3210313671), .lit (.int .u32 3336571891), .lit (.int .u32 3584528711), .lit (.int .u32 113926993), .lit (.int .u32 338241895), .lit (.int .u32 666307205), .lit (.int .u32 773529912), .lit (.int .u32 1294757372), .lit (.int .u32 1396182291), .lit (.int .u32 1695183700), .lit (.int .u32 1986661051), .lit (.int .u32 2177026350), .lit (.int .u32 2456956037), .lit (.int .u32 2730485921), .lit (.int .u32 2820302411), .lit (.int .u32 3259730800), .lit (.int .u32 3345764771), .lit (.int .u32 3516065817), .lit (.int .u32 3600352804), .lit (.int .u32 4094571909), .lit (.int .u32 275423344), .lit (.int .u32 430227734), .lit (.int .u32 506948616), .lit (.int .u32 659060556), .lit (.int .u32 883997877), .lit (.int .u32 958139571), .lit (.int .u32 1322822218), .lit (.int .u32 1537002063), .lit (.int .u32 1747873779), .lit (.int .u32 1955562222), .lit (.int .u32 2024104815), .lit (.int .u32 2227730452), .lit (.int .u32 2361852424), .lit (.int .u32 2428436474), .lit (.int .u32 2756734187), .lit (.int .u32 3204031479), .lit (.int .u32 3329325298)]

/-- 'custodylaw09.WotsMatchesSpec': WHATEVER THE INPUT: true; the input reads as it did. -/
def wotsMatchesSpecSpec : ChangeSpec := { name := "wotsMatchesSpec", fn := fun _ => fun
  | [d1, d2, d3, d4] => { results := [.lit (.bool true)], args := [d1, d2, d3, d4] }
  | _ => none }
def wotsMatchesSpecRow : OpenClaim := { program := "ytikmfgbgionjhaadoor", sum := "8c2abf0ef3dcc6b497d8c5382b60bfd4d10d45efd1a690c4e4a865a6d24d0fad", func := "custody/custodylaw09.WotsMatchesSpec", spec := "wotsMatchesSpec", inPlace := ["internal/abi.NoEscape"], unfollowed := true, recurses := true, named := ["custody/hash.constants", "custody/custodyref02.constants"], apart := false, laid := [("custody/custodyref02.constants", laid_custody_custodyref02_constants), ("custody/hash.constants", laid_custody_hash_constants)] }
def WotsMatchesSpecSaid : Prop := wotsMatchesSpecRow.holds Tryd.pinned (OpenSpec.ofChange wotsMatchesSpecSpec)

/-- ITS FALSE NEIGHBOUR: 'it returns false'. Refute it at one input. -/
def wotsMatchesSpecWrong : ChangeSpec := { name := "wotsMatchesSpec", fn := fun _ => fun
  | [d1, d2, d3, d4] => { results := [.lit (.bool false)], args := [d1, d2, d3, d4] }
  | _ => none }
def WotsMatchesSpecWrongFalsely : Prop := wotsMatchesSpecRow.holds Tryd.pinned (OpenSpec.ofChange wotsMatchesSpecWrong)

/-- 'custodylaw09.WotsAdvance': WHATEVER THE INPUT: true; the input reads as it did. -/
def wotsAdvanceSpec : ChangeSpec := { name := "wotsAdvance", fn := fun _ => fun
  | [d1, d2, d3, d4, d5] => { results := [.lit (.bool true)], args := [d1, d2, d3, d4, d5] }
  | _ => none }
def wotsAdvanceRow : OpenClaim := { program := "ytikmfgbgionjhaadoor", sum := "8c2abf0ef3dcc6b497d8c5382b60bfd4d10d45efd1a690c4e4a865a6d24d0fad", func := "custody/custodylaw09.WotsAdvance", spec := "wotsAdvance", inPlace := ["internal/abi.NoEscape"], unfollowed := true, recurses := true, named := ["custody/hash.constants", "custody/custodyref02.constants"], apart := false, laid := [("custody/custodyref02.constants", laid_custody_custodyref02_constants), ("custody/hash.constants", laid_custody_hash_constants)] }
def WotsAdvanceSaid : Prop := wotsAdvanceRow.holds Tryd.pinned (OpenSpec.ofChange wotsAdvanceSpec)

/-- ITS FALSE NEIGHBOUR: 'it returns false'. Refute it at one input. -/
def wotsAdvanceWrong : ChangeSpec := { name := "wotsAdvance", fn := fun _ => fun
  | [d1, d2, d3, d4, d5] => { results := [.lit (.bool false)], args := [d1, d2, d3, d4, d5] }
  | _ => none }
def WotsAdvanceWrongFalsely : Prop := wotsAdvanceRow.holds Tryd.pinned (OpenSpec.ofChange wotsAdvanceWrong)

/-- 'custodylaw09.WotsVerifies': WHATEVER THE INPUT: true; the input reads as it did. -/
def wotsVerifiesSpec : ChangeSpec := { name := "wotsVerifies", fn := fun _ => fun
  | [d1, d2, d3] => { results := [.lit (.bool true)], args := [d1, d2, d3] }
  | _ => none }
def wotsVerifiesRow : OpenClaim := { program := "ytikmfgbgionjhaadoor", sum := "8c2abf0ef3dcc6b497d8c5382b60bfd4d10d45efd1a690c4e4a865a6d24d0fad", func := "custody/custodylaw09.WotsVerifies", spec := "wotsVerifies", inPlace := ["internal/abi.NoEscape"], unfollowed := true, recurses := true, named := ["custody/hash.constants", "custody/custodyref02.constants"], apart := false, laid := [("custody/custodyref02.constants", laid_custody_custodyref02_constants), ("custody/hash.constants", laid_custody_hash_constants)] }
def WotsVerifiesSaid : Prop := wotsVerifiesRow.holds Tryd.pinned (OpenSpec.ofChange wotsVerifiesSpec)

/-- ITS FALSE NEIGHBOUR: 'it returns false'. Refute it at one input. -/
def wotsVerifiesWrong : ChangeSpec := { name := "wotsVerifies", fn := fun _ => fun
  | [d1, d2, d3] => { results := [.lit (.bool false)], args := [d1, d2, d3] }
  | _ => none }
def WotsVerifiesWrongFalsely : Prop := wotsVerifiesRow.holds Tryd.pinned (OpenSpec.ofChange wotsVerifiesWrong)

/-- 'custodylaw09.WotsDigits': WHATEVER THE INPUT: true; the input reads as it did. -/
def wotsDigitsSpec : ChangeSpec := { name := "wotsDigits", fn := fun _ => fun
  | [d1, d2] => { results := [.lit (.bool true)], args := [d1, d2] }
  | _ => none }
def wotsDigitsRow : OpenClaim := { program := "ytikmfgbgionjhaadoor", sum := "8c2abf0ef3dcc6b497d8c5382b60bfd4d10d45efd1a690c4e4a865a6d24d0fad", func := "custody/custodylaw09.WotsDigits", spec := "wotsDigits", inPlace := ["internal/abi.NoEscape"], unfollowed := true, recurses := true, named := ["custody/hash.constants"], apart := false, laid := [("custody/hash.constants", laid_custody_hash_constants)] }
def WotsDigitsSaid : Prop := wotsDigitsRow.holds Tryd.pinned (OpenSpec.ofChange wotsDigitsSpec)

/-- ITS FALSE NEIGHBOUR: 'it returns false'. Refute it at one input. -/
def wotsDigitsWrong : ChangeSpec := { name := "wotsDigits", fn := fun _ => fun
  | [d1, d2] => { results := [.lit (.bool false)], args := [d1, d2] }
  | _ => none }
def WotsDigitsWrongFalsely : Prop := wotsDigitsRow.holds Tryd.pinned (OpenSpec.ofChange wotsDigitsWrong)

/-- 'custodylaw09.WotsBinds': WHATEVER THE INPUT: true; the input reads as it did. -/
def wotsBindsSpec : ChangeSpec := { name := "wotsBinds", fn := fun _ => fun
  | [d1, d2, d3, d4] => { results := [.lit (.bool true)], args := [d1, d2, d3, d4] }
  | _ => none }
def wotsBindsRow : OpenClaim := { program := "ytikmfgbgionjhaadoor", sum := "8c2abf0ef3dcc6b497d8c5382b60bfd4d10d45efd1a690c4e4a865a6d24d0fad", func := "custody/custodylaw09.WotsBinds", spec := "wotsBinds", inPlace := ["internal/abi.NoEscape"], unfollowed := true, recurses := true, named := ["custody/hash.constants", "custody/custodyref02.constants"], apart := false, laid := [("custody/custodyref02.constants", laid_custody_custodyref02_constants), ("custody/hash.constants", laid_custody_hash_constants)] }
def WotsBindsSaid : Prop := wotsBindsRow.holds Tryd.pinned (OpenSpec.ofChange wotsBindsSpec)

/-- ITS FALSE NEIGHBOUR: 'it returns false'. Refute it at one input. -/
def wotsBindsWrong : ChangeSpec := { name := "wotsBinds", fn := fun _ => fun
  | [d1, d2, d3, d4] => { results := [.lit (.bool false)], args := [d1, d2, d3, d4] }
  | _ => none }
def WotsBindsWrongFalsely : Prop := wotsBindsRow.holds Tryd.pinned (OpenSpec.ofChange wotsBindsWrong)

/-- 'custodylaw09.WotsReveals': WHATEVER THE INPUT: true; the input reads as it did. -/
def wotsRevealsSpec : ChangeSpec := { name := "wotsReveals", fn := fun _ => fun
  | [d1, d2, d3] => { results := [.lit (.bool true)], args := [d1, d2, d3] }
  | _ => none }
def wotsRevealsRow : OpenClaim := { program := "ytikmfgbgionjhaadoor", sum := "8c2abf0ef3dcc6b497d8c5382b60bfd4d10d45efd1a690c4e4a865a6d24d0fad", func := "custody/custodylaw09.WotsReveals", spec := "wotsReveals", inPlace := ["internal/abi.NoEscape"], unfollowed := true, recurses := true, named := ["custody/hash.constants"], apart := false, laid := [("custody/hash.constants", laid_custody_hash_constants)] }
def WotsRevealsSaid : Prop := wotsRevealsRow.holds Tryd.pinned (OpenSpec.ofChange wotsRevealsSpec)

/-- ITS FALSE NEIGHBOUR: 'it returns false'. Refute it at one input. -/
def wotsRevealsWrong : ChangeSpec := { name := "wotsReveals", fn := fun _ => fun
  | [d1, d2, d3] => { results := [.lit (.bool false)], args := [d1, d2, d3] }
  | _ => none }
def WotsRevealsWrongFalsely : Prop := wotsRevealsRow.holds Tryd.pinned (OpenSpec.ofChange wotsRevealsWrong)

/- THE SECOND FORM. 'bulk': how many values and letters a reading holds, each counted each time it is reached (what is shared counts as often as it is met; a slice's spare places count too). A statement '..UptoSaid' is the law's where the arguments, and the package variables that the reading takes, are together of bulk at most 1048576: NARROWER than '..Said'. Prove '..Said' where nothing that the law and all that it calls make is longer than what came in: it says more and counts as full. Else prove '..UptoSaid'. A law counts once. -/
mutual
def uptoBulk {H : Type} : DataW H → Nat
  | .lit (.string bytes) => bytes.length + 1
  | .lit _ => 1
  | .nil => 1
  | .ptr d => uptoBulk d + 1
  | .slice elems spare => uptoBulkAll elems + uptoBulkAll spare + 1
  | .agg parts => uptoBulkAll parts + 1
  | .iface _ d => uptoBulk d + 1
  | .map entries => uptoBulkEntries entries + 1
  | .held _ => 1
def uptoBulkAll {H : Type} : List (DataW H) → Nat
  | [] => 0
  | d :: r => uptoBulk d + uptoBulkAll r
def uptoBulkEntries {H : Type} : List (Lit × DataW H) → Nat
  | [] => 0
  | x :: r => uptoBulkEntry x + uptoBulkEntries r
def uptoBulkEntry {H : Type} : Lit × DataW H → Nat
  | (.string bytes, d) => bytes.length + uptoBulk d + 1
  | (_, d) => uptoBulk d + 1
 end
def uptoSmall : (H : Type) → List (DataW H) → Bool := fun _ ds => decide (uptoBulkAll ds ≤ 1048576)
def OpenSpec.upto (s : _root_.Go.ChangeSpec) : _root_.Go.OpenSpec := { _root_.Go.OpenSpec.ofChange s with cond := some uptoSmall }

/-- 'custodylaw09.WotsMatchesSpec', WHERE WHAT IT READS IS OF BULK AT MOST 1048576: true; the input reads as it did. -/
def wotsMatchesSpecUptoRow : OpenClaim := { program := "ytikmfgbgionjhaadoor", sum := "8c2abf0ef3dcc6b497d8c5382b60bfd4d10d45efd1a690c4e4a865a6d24d0fad", func := "custody/custodylaw09.WotsMatchesSpec", spec := "wotsMatchesSpec", inPlace := ["internal/abi.NoEscape"], unfollowed := true, recurses := true, named := ["custody/hash.constants", "custody/custodyref02.constants"], apart := false, laid := [("custody/custodyref02.constants", laid_custody_custodyref02_constants), ("custody/hash.constants", laid_custody_hash_constants)], narrowed := true }
def WotsMatchesSpecUptoSaid : Prop := wotsMatchesSpecUptoRow.holds Tryd.pinned (OpenSpec.upto wotsMatchesSpecSpec)

/-- 'custodylaw09.WotsAdvance', WHERE WHAT IT READS IS OF BULK AT MOST 1048576: true; the input reads as it did. -/
def wotsAdvanceUptoRow : OpenClaim := { program := "ytikmfgbgionjhaadoor", sum := "8c2abf0ef3dcc6b497d8c5382b60bfd4d10d45efd1a690c4e4a865a6d24d0fad", func := "custody/custodylaw09.WotsAdvance", spec := "wotsAdvance", inPlace := ["internal/abi.NoEscape"], unfollowed := true, recurses := true, named := ["custody/hash.constants", "custody/custodyref02.constants"], apart := false, laid := [("custody/custodyref02.constants", laid_custody_custodyref02_constants), ("custody/hash.constants", laid_custody_hash_constants)], narrowed := true }
def WotsAdvanceUptoSaid : Prop := wotsAdvanceUptoRow.holds Tryd.pinned (OpenSpec.upto wotsAdvanceSpec)

/-- 'custodylaw09.WotsVerifies', WHERE WHAT IT READS IS OF BULK AT MOST 1048576: true; the input reads as it did. -/
def wotsVerifiesUptoRow : OpenClaim := { program := "ytikmfgbgionjhaadoor", sum := "8c2abf0ef3dcc6b497d8c5382b60bfd4d10d45efd1a690c4e4a865a6d24d0fad", func := "custody/custodylaw09.WotsVerifies", spec := "wotsVerifies", inPlace := ["internal/abi.NoEscape"], unfollowed := true, recurses := true, named := ["custody/hash.constants", "custody/custodyref02.constants"], apart := false, laid := [("custody/custodyref02.constants", laid_custody_custodyref02_constants), ("custody/hash.constants", laid_custody_hash_constants)], narrowed := true }
def WotsVerifiesUptoSaid : Prop := wotsVerifiesUptoRow.holds Tryd.pinned (OpenSpec.upto wotsVerifiesSpec)

/-- 'custodylaw09.WotsDigits', WHERE WHAT IT READS IS OF BULK AT MOST 1048576: true; the input reads as it did. -/
def wotsDigitsUptoRow : OpenClaim := { program := "ytikmfgbgionjhaadoor", sum := "8c2abf0ef3dcc6b497d8c5382b60bfd4d10d45efd1a690c4e4a865a6d24d0fad", func := "custody/custodylaw09.WotsDigits", spec := "wotsDigits", inPlace := ["internal/abi.NoEscape"], unfollowed := true, recurses := true, named := ["custody/hash.constants"], apart := false, laid := [("custody/hash.constants", laid_custody_hash_constants)], narrowed := true }
def WotsDigitsUptoSaid : Prop := wotsDigitsUptoRow.holds Tryd.pinned (OpenSpec.upto wotsDigitsSpec)

/-- 'custodylaw09.WotsBinds', WHERE WHAT IT READS IS OF BULK AT MOST 1048576: true; the input reads as it did. -/
def wotsBindsUptoRow : OpenClaim := { program := "ytikmfgbgionjhaadoor", sum := "8c2abf0ef3dcc6b497d8c5382b60bfd4d10d45efd1a690c4e4a865a6d24d0fad", func := "custody/custodylaw09.WotsBinds", spec := "wotsBinds", inPlace := ["internal/abi.NoEscape"], unfollowed := true, recurses := true, named := ["custody/hash.constants", "custody/custodyref02.constants"], apart := false, laid := [("custody/custodyref02.constants", laid_custody_custodyref02_constants), ("custody/hash.constants", laid_custody_hash_constants)], narrowed := true }
def WotsBindsUptoSaid : Prop := wotsBindsUptoRow.holds Tryd.pinned (OpenSpec.upto wotsBindsSpec)

/-- 'custodylaw09.WotsReveals', WHERE WHAT IT READS IS OF BULK AT MOST 1048576: true; the input reads as it did. -/
def wotsRevealsUptoRow : OpenClaim := { program := "ytikmfgbgionjhaadoor", sum := "8c2abf0ef3dcc6b497d8c5382b60bfd4d10d45efd1a690c4e4a865a6d24d0fad", func := "custody/custodylaw09.WotsReveals", spec := "wotsReveals", inPlace := ["internal/abi.NoEscape"], unfollowed := true, recurses := true, named := ["custody/hash.constants"], apart := false, laid := [("custody/hash.constants", laid_custody_hash_constants)], narrowed := true }
def WotsRevealsUptoSaid : Prop := wotsRevealsUptoRow.holds Tryd.pinned (OpenSpec.upto wotsRevealsSpec)

end Rows
end Go.Proofs.YtikmfgbgionjhaaDoor
