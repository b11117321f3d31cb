/-
  NARROWER THAN 'FOR EVERY INPUT', by the rows' own cells (each row's printed sentence says how): KdfDeriveMatchesSpec: laid · KdfPathMatchesSpec: laid · KdfDeriveSeparates: laid · KdfRandomMatchesSpec: laid · KdfBytesInParts: laid · KdfNextIsDerived: laid.
  DERIVED. THE GIVEN ROWS OF THIS SEAT. 6 by the template 'for every input the law returns true; each argument reads behind the call as it read before'; 0 by the template 'total and deterministic' (their statements: YtofpocohihjddaaDoorTotals.lean).
  GIVEN WITH THE SEED: the statements are not yours to turn. If you find one false, say at which input.
  Laid BY PROGRAM, IN A SANDBOX (cutbox-rows.mjs): the forced cells as the released guide's own fill.sh prints them over the translation 22d7b7cbb732d4ba… (all of the seat's roots in one cut). By AI agents, Wed Nov 11 2026. No macro, syntax, notation, axiom, sorry.
-/
import Derived.Test.YtofpocohihjddaaDoorChecked
import GoSem.Claim
import GoSem.ClaimJoined
import GoSem.ClaimMapViews
import Derived.JoinedTies
import Derived.KernelRfl
namespace Go.Proofs.YtofpocohihjddaaDoor
/- THE CELL 'sum', in the pinned program and in every row, IS THE sha256 OF THE DUMP (.gsa) THAT YtofpocohihjddaaDoorProg.lean LOADS. Nothing in Lean hashes anything: it is a label: what it is worth is what the hold of that sum in a sandbox is worth. -/
noncomputable def Tryd.pinned : Pinned := { name := "ytofpocohihjddaadoor", sum := "22d7b7cbb732d4ba73e9cca16f1f1667c9f97e7ccd7d897fb42ec63a5203485f", checked := Tryd.checked }
namespace Rows
def none {H : Type} : Left H := { results := [], args := [] }

/- WHAT THE LISTED PACKAGE-LEVEL VARIABLES READ AS WHEN THE CALL BEGINS. Each datum BY PROGRAM (the guide's laid-datum.mjs) off the statement by which the dump's own 'gosem.cut.vars' lays the variable. In a bare row this is a premise. The card (YtofpocohihjddaaDoorCards.lean) ties it to the program's text. -/
def laid_custody_custodyref02_constants {H : Type} : DataW H := .agg [.lit (.int .u32 1116352408), .lit (.int .u32 1899447441), .lit (.int .u32 3049323471), .lit (.int .u32 3921009573), .lit (.int .u32 961987163), .lit (.int .u32 1508970993), .lit (.int .u32 2453635748), .lit (.int .u32 2870763221), .lit (.int .u32 3624381080), .lit (.int .u32 310598401), .lit (.int .u32 607225278), .lit (.int .u32 1426881987), .lit (.int .u32 1925078388), .lit (.int .u32 2162078206), .lit (.int .u32 2614888103), .lit (.int .u32 3248222580), .lit (.int .u32 3835390401), .lit (.int .u32 4022224774), .lit (.int .u32 264347078), .lit (.int .u32 604807628), .lit (.int .u32 770255983), .lit (.int .u32 1249150122), .lit (.int .u32 1555081692), .lit (.int .u32 1996064986), .lit (.int .u32 2554220882), .lit (.int .u32 2821834349), .lit (.int .u32 2952996808), .lit (.int .u32 3210313671), .lit (.int .u32 3336571891), .lit (.int .u32 3584528711), .lit (.int .u32 113926993), .lit (.int .u32 338241895), .lit (.int .u32 666307205), .lit (.int .u32 773529912), .lit (.int .u32 1294757372), .lit (.int .u32 1396182291), .lit (.int .u32 1695183700), .lit (.int .u32 1986661051), .lit (.int .u32 2177026350), .lit (.int .u32 2456956037), .lit (.int .u32 2730485921), .lit (.int .u32 2820302411), .lit (.int .u32 3259730800), .lit (.int .u32 3345764771), .lit (.int .u32 3516065817), .lit (.int .u32 3600352804), .lit (.int .u32 4094571909), .lit (.int .u32 275423344), .lit (.int .u32 430227734), .lit (.int .u32 506948616), .lit (.int .u32 659060556), .lit (.int .u32 883997877), .lit (.int .u32 958139571), .lit (.int .u32 1322822218), .lit (.int .u32 1537002063), .lit (.int .u32 1747873779), .lit (.int .u32 1955562222), .lit (.int .u32 2024104815), .lit (.int .u32 2227730452), .lit (.int .u32 2361852424), .lit (.int .u32 2428436474), .lit (.int .u32 2756734187), .lit (.int .u32 3204031479), .lit (.int .u32 3329325298)]
def laid_custody_hash_constants {H : Type} : DataW H := .agg [.lit (.int .u32 1116352408), .lit (.int .u32 1899447441), .lit (.int .u32 3049323471), .lit (.int .u32 3921009573), .lit (.int .u32 961987163), .lit (.int .u32 1508970993), .lit (.int .u32 2453635748), .lit (.int .u32 2870763221), .lit (.int .u32 3624381080), .lit (.int .u32 310598401), .lit (.int .u32 607225278), .lit (.int .u32 1426881987), .lit (.int .u32 1925078388), .lit (.int .u32 2162078206), .lit (.int .u32 2614888103), .lit (.int .u32 3248222580), .lit (.int .u32 3835390401), .lit (.int .u32 4022224774), .lit (.int .u32 264347078), .lit (.int .u32 604807628), .lit (.int .u32 770255983), .lit (.int .u32 1249150122), .lit (.int .u32 1555081692), .lit (.int .u32 1996064986), .lit (.int .u32 2554220882), .lit (.int .u32 2821834349), .lit (.int .u32 2952996808), .lit (.int .u32 3210313671), .lit (.int .u32 3336571891), .lit (.int .u32 3584528711), .lit (.int .u32 113926993), .lit (.int .u32 338241895), .lit (.int .u32 666307205), .lit (.int .u32 773529912), .lit (.int .u32 1294757372), .lit (.int .u32 1396182291), .lit (.int .u32 1695183700), .lit (.int .u32 1986661051), .lit (.int .u32 2177026350), .lit (.int .u32 2456956037), .lit (.int .u32 2730485921), .lit (.int .u32 2820302411), .lit (.int .u32 3259730800), .lit (.int .u32 3345764771), .lit (.int .u32 3516065817), .lit (.int .u32 3600352804), .lit (.int .u32 4094571909), .lit (.int .u32 275423344), .lit (.int .u32 430227734), .lit (.int .u32 506948616), .lit (.int .u32 659060556), .lit (.int .u32 883997877), .lit (.int .u32 958139571), .lit (.int .u32 1322822218), .lit (.int .u32 1537002063), .lit (.int .u32 1747873779), .lit (.int .u32 1955562222), .lit (.int .u32 2024104815), .lit (.int .u32 2227730452), .lit (.int .u32 2361852424), .lit (.int .u32 2428436474), .lit (.int .u32 2756734187), .lit (.int .u32 3204031479), .lit (.int .u32 3329325298)]

/-- 'custodylaw05.KdfDeriveMatchesSpec': WHATEVER THE INPUT: true; the input reads as it did. -/
def kdfDeriveMatchesSpecSpec : ChangeSpec := { name := "kdfDeriveMatchesSpec", fn := fun _ => fun
  | [d1, d2, d3] => { results := [.lit (.bool true)], args := [d1, d2, d3] }
  | _ => none }
def kdfDeriveMatchesSpecRow : OpenClaim := { program := "ytofpocohihjddaadoor", sum := "22d7b7cbb732d4ba73e9cca16f1f1667c9f97e7ccd7d897fb42ec63a5203485f", func := "custody/custodylaw05.KdfDeriveMatchesSpec", spec := "kdfDeriveMatchesSpec", inPlace := ["internal/abi.NoEscape"], unfollowed := true, recurses := true, named := ["custody/hash.constants", "custody/custodyref02.constants"], apart := false, laid := [("custody/custodyref02.constants", laid_custody_custodyref02_constants), ("custody/hash.constants", laid_custody_hash_constants)] }
def KdfDeriveMatchesSpecSaid : Prop := kdfDeriveMatchesSpecRow.holds Tryd.pinned (OpenSpec.ofChange kdfDeriveMatchesSpecSpec)

/-- ITS FALSE NEIGHBOUR: 'it returns false'. Refute it at one input. -/
def kdfDeriveMatchesSpecWrong : ChangeSpec := { name := "kdfDeriveMatchesSpec", fn := fun _ => fun
  | [d1, d2, d3] => { results := [.lit (.bool false)], args := [d1, d2, d3] }
  | _ => none }
def KdfDeriveMatchesSpecWrongFalsely : Prop := kdfDeriveMatchesSpecRow.holds Tryd.pinned (OpenSpec.ofChange kdfDeriveMatchesSpecWrong)

/-- 'custodylaw05.KdfPathMatchesSpec': WHATEVER THE INPUT: true; the input reads as it did. -/
def kdfPathMatchesSpecSpec : ChangeSpec := { name := "kdfPathMatchesSpec", fn := fun _ => fun
  | [d1, d2, d3] => { results := [.lit (.bool true)], args := [d1, d2, d3] }
  | _ => none }
def kdfPathMatchesSpecRow : OpenClaim := { program := "ytofpocohihjddaadoor", sum := "22d7b7cbb732d4ba73e9cca16f1f1667c9f97e7ccd7d897fb42ec63a5203485f", func := "custody/custodylaw05.KdfPathMatchesSpec", spec := "kdfPathMatchesSpec", inPlace := ["internal/abi.NoEscape"], unfollowed := true, recurses := true, named := ["custody/hash.constants", "custody/custodyref02.constants"], apart := false, laid := [("custody/custodyref02.constants", laid_custody_custodyref02_constants), ("custody/hash.constants", laid_custody_hash_constants)] }
def KdfPathMatchesSpecSaid : Prop := kdfPathMatchesSpecRow.holds Tryd.pinned (OpenSpec.ofChange kdfPathMatchesSpecSpec)

/-- ITS FALSE NEIGHBOUR: 'it returns false'. Refute it at one input. -/
def kdfPathMatchesSpecWrong : ChangeSpec := { name := "kdfPathMatchesSpec", fn := fun _ => fun
  | [d1, d2, d3] => { results := [.lit (.bool false)], args := [d1, d2, d3] }
  | _ => none }
def KdfPathMatchesSpecWrongFalsely : Prop := kdfPathMatchesSpecRow.holds Tryd.pinned (OpenSpec.ofChange kdfPathMatchesSpecWrong)

/-- 'custodylaw05.KdfDeriveSeparates': WHATEVER THE INPUT: true; the input reads as it did. -/
def kdfDeriveSeparatesSpec : ChangeSpec := { name := "kdfDeriveSeparates", fn := fun _ => fun
  | [d1, d2, d3] => { results := [.lit (.bool true)], args := [d1, d2, d3] }
  | _ => none }
def kdfDeriveSeparatesRow : OpenClaim := { program := "ytofpocohihjddaadoor", sum := "22d7b7cbb732d4ba73e9cca16f1f1667c9f97e7ccd7d897fb42ec63a5203485f", func := "custody/custodylaw05.KdfDeriveSeparates", spec := "kdfDeriveSeparates", inPlace := ["internal/abi.NoEscape"], unfollowed := true, recurses := true, named := ["custody/hash.constants", "custody/custodyref02.constants"], apart := false, laid := [("custody/custodyref02.constants", laid_custody_custodyref02_constants), ("custody/hash.constants", laid_custody_hash_constants)] }
def KdfDeriveSeparatesSaid : Prop := kdfDeriveSeparatesRow.holds Tryd.pinned (OpenSpec.ofChange kdfDeriveSeparatesSpec)

/-- ITS FALSE NEIGHBOUR: 'it returns false'. Refute it at one input. -/
def kdfDeriveSeparatesWrong : ChangeSpec := { name := "kdfDeriveSeparates", fn := fun _ => fun
  | [d1, d2, d3] => { results := [.lit (.bool false)], args := [d1, d2, d3] }
  | _ => none }
def KdfDeriveSeparatesWrongFalsely : Prop := kdfDeriveSeparatesRow.holds Tryd.pinned (OpenSpec.ofChange kdfDeriveSeparatesWrong)

/-- 'custodylaw05.KdfRandomMatchesSpec': WHATEVER THE INPUT: true; the input reads as it did. -/
def kdfRandomMatchesSpecSpec : ChangeSpec := { name := "kdfRandomMatchesSpec", fn := fun _ => fun
  | [d1, d2] => { results := [.lit (.bool true)], args := [d1, d2] }
  | _ => none }
def kdfRandomMatchesSpecRow : OpenClaim := { program := "ytofpocohihjddaadoor", sum := "22d7b7cbb732d4ba73e9cca16f1f1667c9f97e7ccd7d897fb42ec63a5203485f", func := "custody/custodylaw05.KdfRandomMatchesSpec", spec := "kdfRandomMatchesSpec", inPlace := ["internal/abi.NoEscape"], unfollowed := true, recurses := true, named := ["custody/hash.constants", "custody/custodyref02.constants"], apart := false, laid := [("custody/custodyref02.constants", laid_custody_custodyref02_constants), ("custody/hash.constants", laid_custody_hash_constants)] }
def KdfRandomMatchesSpecSaid : Prop := kdfRandomMatchesSpecRow.holds Tryd.pinned (OpenSpec.ofChange kdfRandomMatchesSpecSpec)

/-- ITS FALSE NEIGHBOUR: 'it returns false'. Refute it at one input. -/
def kdfRandomMatchesSpecWrong : ChangeSpec := { name := "kdfRandomMatchesSpec", fn := fun _ => fun
  | [d1, d2] => { results := [.lit (.bool false)], args := [d1, d2] }
  | _ => none }
def KdfRandomMatchesSpecWrongFalsely : Prop := kdfRandomMatchesSpecRow.holds Tryd.pinned (OpenSpec.ofChange kdfRandomMatchesSpecWrong)

/-- 'custodylaw05.KdfBytesInParts': WHATEVER THE INPUT: true; the input reads as it did. -/
def kdfBytesInPartsSpec : ChangeSpec := { name := "kdfBytesInParts", fn := fun _ => fun
  | [d1, d2, d3] => { results := [.lit (.bool true)], args := [d1, d2, d3] }
  | _ => none }
def kdfBytesInPartsRow : OpenClaim := { program := "ytofpocohihjddaadoor", sum := "22d7b7cbb732d4ba73e9cca16f1f1667c9f97e7ccd7d897fb42ec63a5203485f", func := "custody/custodylaw05.KdfBytesInParts", spec := "kdfBytesInParts", inPlace := ["internal/abi.NoEscape"], unfollowed := true, recurses := true, named := ["custody/hash.constants"], apart := false, laid := [("custody/hash.constants", laid_custody_hash_constants)] }
def KdfBytesInPartsSaid : Prop := kdfBytesInPartsRow.holds Tryd.pinned (OpenSpec.ofChange kdfBytesInPartsSpec)

/-- ITS FALSE NEIGHBOUR: 'it returns false'. Refute it at one input. -/
def kdfBytesInPartsWrong : ChangeSpec := { name := "kdfBytesInParts", fn := fun _ => fun
  | [d1, d2, d3] => { results := [.lit (.bool false)], args := [d1, d2, d3] }
  | _ => none }
def KdfBytesInPartsWrongFalsely : Prop := kdfBytesInPartsRow.holds Tryd.pinned (OpenSpec.ofChange kdfBytesInPartsWrong)

/-- 'custodylaw05.KdfNextIsDerived': WHATEVER THE INPUT: true; the input reads as it did. -/
def kdfNextIsDerivedSpec : ChangeSpec := { name := "kdfNextIsDerived", fn := fun _ => fun
  | [d1, d2] => { results := [.lit (.bool true)], args := [d1, d2] }
  | _ => none }
def kdfNextIsDerivedRow : OpenClaim := { program := "ytofpocohihjddaadoor", sum := "22d7b7cbb732d4ba73e9cca16f1f1667c9f97e7ccd7d897fb42ec63a5203485f", func := "custody/custodylaw05.KdfNextIsDerived", spec := "kdfNextIsDerived", inPlace := ["internal/abi.NoEscape"], unfollowed := true, recurses := true, named := ["custody/hash.constants"], apart := false, laid := [("custody/hash.constants", laid_custody_hash_constants)] }
def KdfNextIsDerivedSaid : Prop := kdfNextIsDerivedRow.holds Tryd.pinned (OpenSpec.ofChange kdfNextIsDerivedSpec)

/-- ITS FALSE NEIGHBOUR: 'it returns false'. Refute it at one input. -/
def kdfNextIsDerivedWrong : ChangeSpec := { name := "kdfNextIsDerived", fn := fun _ => fun
  | [d1, d2] => { results := [.lit (.bool false)], args := [d1, d2] }
  | _ => none }
def KdfNextIsDerivedWrongFalsely : Prop := kdfNextIsDerivedRow.holds Tryd.pinned (OpenSpec.ofChange kdfNextIsDerivedWrong)

/- THE SECOND FORM. 'bulk': how many values and letters a reading holds, each counted each time it is reached (what is shared counts as often as it is met; a slice's spare places count too). A statement '..UptoSaid' is the law's where the arguments, and the package variables that the reading takes, are together of bulk at most 1048576: NARROWER than '..Said'. Prove '..Said' where nothing that the law and all that it calls make is longer than what came in: it says more and counts as full. Else prove '..UptoSaid'. A law counts once. -/
mutual
def uptoBulk {H : Type} : DataW H → Nat
  | .lit (.string bytes) => bytes.length + 1
  | .lit _ => 1
  | .nil => 1
  | .ptr d => uptoBulk d + 1
  | .slice elems spare => uptoBulkAll elems + uptoBulkAll spare + 1
  | .agg parts => uptoBulkAll parts + 1
  | .iface _ d => uptoBulk d + 1
  | .map entries => uptoBulkEntries entries + 1
  | .held _ => 1
def uptoBulkAll {H : Type} : List (DataW H) → Nat
  | [] => 0
  | d :: r => uptoBulk d + uptoBulkAll r
def uptoBulkEntries {H : Type} : List (Lit × DataW H) → Nat
  | [] => 0
  | x :: r => uptoBulkEntry x + uptoBulkEntries r
def uptoBulkEntry {H : Type} : Lit × DataW H → Nat
  | (.string bytes, d) => bytes.length + uptoBulk d + 1
  | (_, d) => uptoBulk d + 1
 end
def uptoSmall : (H : Type) → List (DataW H) → Bool := fun _ ds => decide (uptoBulkAll ds ≤ 1048576)
def OpenSpec.upto (s : _root_.Go.ChangeSpec) : _root_.Go.OpenSpec := { _root_.Go.OpenSpec.ofChange s with cond := some uptoSmall }

/-- 'custodylaw05.KdfDeriveMatchesSpec', WHERE WHAT IT READS IS OF BULK AT MOST 1048576: true; the input reads as it did. -/
def kdfDeriveMatchesSpecUptoRow : OpenClaim := { program := "ytofpocohihjddaadoor", sum := "22d7b7cbb732d4ba73e9cca16f1f1667c9f97e7ccd7d897fb42ec63a5203485f", func := "custody/custodylaw05.KdfDeriveMatchesSpec", spec := "kdfDeriveMatchesSpec", inPlace := ["internal/abi.NoEscape"], unfollowed := true, recurses := true, named := ["custody/hash.constants", "custody/custodyref02.constants"], apart := false, laid := [("custody/custodyref02.constants", laid_custody_custodyref02_constants), ("custody/hash.constants", laid_custody_hash_constants)], narrowed := true }
def KdfDeriveMatchesSpecUptoSaid : Prop := kdfDeriveMatchesSpecUptoRow.holds Tryd.pinned (OpenSpec.upto kdfDeriveMatchesSpecSpec)

/-- 'custodylaw05.KdfPathMatchesSpec', WHERE WHAT IT READS IS OF BULK AT MOST 1048576: true; the input reads as it did. -/
def kdfPathMatchesSpecUptoRow : OpenClaim := { program := "ytofpocohihjddaadoor", sum := "22d7b7cbb732d4ba73e9cca16f1f1667c9f97e7ccd7d897fb42ec63a5203485f", func := "custody/custodylaw05.KdfPathMatchesSpec", spec := "kdfPathMatchesSpec", inPlace := ["internal/abi.NoEscape"], unfollowed := true, recurses := true, named := ["custody/hash.constants", "custody/custodyref02.constants"], apart := false, laid := [("custody/custodyref02.constants", laid_custody_custodyref02_constants), ("custody/hash.constants", laid_custody_hash_constants)], narrowed := true }
def KdfPathMatchesSpecUptoSaid : Prop := kdfPathMatchesSpecUptoRow.holds Tryd.pinned (OpenSpec.upto kdfPathMatchesSpecSpec)

/-- 'custodylaw05.KdfDeriveSeparates', WHERE WHAT IT READS IS OF BULK AT MOST 1048576: true; the input reads as it did. -/
def kdfDeriveSeparatesUptoRow : OpenClaim := { program := "ytofpocohihjddaadoor", sum := "22d7b7cbb732d4ba73e9cca16f1f1667c9f97e7ccd7d897fb42ec63a5203485f", func := "custody/custodylaw05.KdfDeriveSeparates", spec := "kdfDeriveSeparates", inPlace := ["internal/abi.NoEscape"], unfollowed := true, recurses := true, named := ["custody/hash.constants", "custody/custodyref02.constants"], apart := false, laid := [("custody/custodyref02.constants", laid_custody_custodyref02_constants), ("custody/hash.constants", laid_custody_hash_constants)], narrowed := true }
def KdfDeriveSeparatesUptoSaid : Prop := kdfDeriveSeparatesUptoRow.holds Tryd.pinned (OpenSpec.upto kdfDeriveSeparatesSpec)

/-- 'custodylaw05.KdfRandomMatchesSpec', WHERE WHAT IT READS IS OF BULK AT MOST 1048576: true; the input reads as it did. -/
def kdfRandomMatchesSpecUptoRow : OpenClaim := { program := "ytofpocohihjddaadoor", sum := "22d7b7cbb732d4ba73e9cca16f1f1667c9f97e7ccd7d897fb42ec63a5203485f", func := "custody/custodylaw05.KdfRandomMatchesSpec", spec := "kdfRandomMatchesSpec", inPlace := ["internal/abi.NoEscape"], unfollowed := true, recurses := true, named := ["custody/hash.constants", "custody/custodyref02.constants"], apart := false, laid := [("custody/custodyref02.constants", laid_custody_custodyref02_constants), ("custody/hash.constants", laid_custody_hash_constants)], narrowed := true }
def KdfRandomMatchesSpecUptoSaid : Prop := kdfRandomMatchesSpecUptoRow.holds Tryd.pinned (OpenSpec.upto kdfRandomMatchesSpecSpec)

/-- 'custodylaw05.KdfBytesInParts', WHERE WHAT IT READS IS OF BULK AT MOST 1048576: true; the input reads as it did. -/
def kdfBytesInPartsUptoRow : OpenClaim := { program := "ytofpocohihjddaadoor", sum := "22d7b7cbb732d4ba73e9cca16f1f1667c9f97e7ccd7d897fb42ec63a5203485f", func := "custody/custodylaw05.KdfBytesInParts", spec := "kdfBytesInParts", inPlace := ["internal/abi.NoEscape"], unfollowed := true, recurses := true, named := ["custody/hash.constants"], apart := false, laid := [("custody/hash.constants", laid_custody_hash_constants)], narrowed := true }
def KdfBytesInPartsUptoSaid : Prop := kdfBytesInPartsUptoRow.holds Tryd.pinned (OpenSpec.upto kdfBytesInPartsSpec)

/-- 'custodylaw05.KdfNextIsDerived', WHERE WHAT IT READS IS OF BULK AT MOST 1048576: true; the input reads as it did. -/
def kdfNextIsDerivedUptoRow : OpenClaim := { program := "ytofpocohihjddaadoor", sum := "22d7b7cbb732d4ba73e9cca16f1f1667c9f97e7ccd7d897fb42ec63a5203485f", func := "custody/custodylaw05.KdfNextIsDerived", spec := "kdfNextIsDerived", inPlace := ["internal/abi.NoEscape"], unfollowed := true, recurses := true, named := ["custody/hash.constants"], apart := false, laid := [("custody/hash.constants", laid_custody_hash_constants)], narrowed := true }
def KdfNextIsDerivedUptoSaid : Prop := kdfNextIsDerivedUptoRow.holds Tryd.pinned (OpenSpec.upto kdfNextIsDerivedSpec)

end Rows
end Go.Proofs.YtofpocohihjddaaDoor
