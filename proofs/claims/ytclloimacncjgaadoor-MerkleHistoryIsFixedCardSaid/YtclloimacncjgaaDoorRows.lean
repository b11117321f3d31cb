/-
  NARROWER THAN 'FOR EVERY INPUT', by the rows' own cells (each row's printed sentence says how): MerkleTreesMatchSpec: laid · MerkleVerifyMatchesSpec: laid · MerkleProofsAreAccepted: laid · MerkleClashMatchesSpec: laid · MerkleHistoryIsFixed: laid · MerklePeaksGrow: laid · MerklePeaksMatchSpec: laid.
  DERIVED. THE GIVEN ROWS OF THIS SEAT. 7 by the template 'for every input the law returns true; each argument reads behind the call as it read before'; 0 by the template 'total and deterministic' (their statements: YtclloimacncjgaaDoorTotals.lean).
  GIVEN WITH THE SEED: the statements are not yours to turn. If you find one false, say at which input.
  Laid BY PROGRAM, IN A SANDBOX (cutbox-rows.mjs): the forced cells as the released guide's own fill.sh prints them over the translation bd9e24ad3fec7175… (all of the seat's roots in one cut). By AI agents, Wed Nov 11 2026. No macro, syntax, notation, axiom, sorry.
-/
import Derived.Test.YtclloimacncjgaaDoorChecked
import GoSem.Claim
import GoSem.ClaimJoined
import GoSem.ClaimMapViews
import Derived.JoinedTies
import Derived.KernelRfl
namespace Go.Proofs.YtclloimacncjgaaDoor
/- THE CELL 'sum', in the pinned program and in every row, IS THE sha256 OF THE DUMP (.gsa) THAT YtclloimacncjgaaDoorProg.lean LOADS. Nothing in Lean hashes anything: it is a label: what it is worth is what the hold of that sum in a sandbox is worth. -/
noncomputable def Tryd.pinned : Pinned := { name := "ytclloimacncjgaadoor", sum := "bd9e24ad3fec7175449e911ba1a0261066c1cd0fa7b82adff4a4f6dafa206f15", checked := Tryd.checked }
namespace Rows
def none {H : Type} : Left H := { results := [], args := [] }

/- WHAT THE LISTED PACKAGE-LEVEL VARIABLES READ AS WHEN THE CALL BEGINS. Each datum BY PROGRAM (the guide's laid-datum.mjs) off the statement by which the dump's own 'gosem.cut.vars' lays the variable. In a bare row this is a premise. The card (YtclloimacncjgaaDoorCards.lean) ties it to the program's text. -/
def laid_custody_custodyref02_constants {H : Type} : DataW H := .agg [.lit (.int .u32 1116352408), .lit (.int .u32 1899447441), .lit (.int .u32 3049323471), .lit (.int .u32 3921009573), .lit (.int .u32 961987163), .lit (.int .u32 1508970993), .lit (.int .u32 2453635748), .lit (.int .u32 2870763221), .lit (.int .u32 3624381080), .lit (.int .u32 310598401), .lit (.int .u32 607225278), .lit (.int .u32 1426881987), .lit (.int .u32 1925078388), .lit (.int .u32 2162078206), .lit (.int .u32 2614888103), .lit (.int .u32 3248222580), .lit (.int .u32 3835390401), .lit (.int .u32 4022224774), .lit (.int .u32 264347078), .lit (.int .u32 604807628), .lit (.int .u32 770255983), .lit (.int .u32 1249150122), .lit (.int .u32 1555081692), .lit (.int .u32 1996064986), .lit (.int .u32 2554220882), .lit (.int .u32 2821834349), .lit (.int .u32 2952996808), .lit (.int .u32 3210313671), .lit (.int .u32 3336571891), .lit (.int .u32 3584528711), .lit (.int .u32 113926993), .lit (.int .u32 338241895), .lit (.int .u32 666307205), .lit (.int .u32 773529912), .lit (.int .u32 1294757372), .lit (.int .u32 1396182291), .lit (.int .u32 1695183700), .lit (.int .u32 1986661051), .lit (.int .u32 2177026350), .lit (.int .u32 2456956037), .lit (.int .u32 2730485921), .lit (.int .u32 2820302411), .lit (.int .u32 3259730800), .lit (.int .u32 3345764771), .lit (.int .u32 3516065817), .lit (.int .u32 3600352804), .lit (.int .u32 4094571909), .lit (.int .u32 275423344), .lit (.int .u32 430227734), .lit (.int .u32 506948616), .lit (.int .u32 659060556), .lit (.int .u32 883997877), .lit (.int .u32 958139571), .lit (.int .u32 1322822218), .lit (.int .u32 1537002063), .lit (.int .u32 1747873779), .lit (.int .u32 1955562222), .lit (.int .u32 2024104815), .lit (.int .u32 2227730452), .lit (.int .u32 2361852424), .lit (.int .u32 2428436474), .lit (.int .u32 2756734187), .lit (.int .u32 3204031479), .lit (.int .u32 3329325298)]
def laid_math_bits_deBruijn32tab {H : Type} : DataW H := .agg [.lit (.int .u8 0), .lit (.int .u8 1), .lit (.int .u8 28), .lit (.int .u8 2), .lit (.int .u8 29), .lit (.int .u8 14), .lit (.int .u8 24), .lit (.int .u8 3), .lit (.int .u8 30), .lit (.int .u8 22), .lit (.int .u8 20), .lit (.int .u8 15), .lit (.int .u8 25), .lit (.int .u8 17), .lit (.int .u8 4), .lit (.int .u8 8), .lit (.int .u8 31), .lit (.int .u8 27), .lit (.int .u8 13), .lit (.int .u8 23), .lit (.int .u8 21), .lit (.int .u8 19), .lit (.int .u8 16), .lit (.int .u8 7), .lit (.int .u8 26), .lit (.int .u8 12), .lit (.int .u8 18), .lit (.int .u8 6), .lit (.int .u8 11), .lit (.int .u8 5), .lit (.int .u8 10), .lit (.int .u8 9)]
def laid_math_bits_deBruijn64tab {H : Type} : DataW H := .agg [.lit (.int .u8 0), .lit (.int .u8 1), .lit (.int .u8 56), .lit (.int .u8 2), .lit (.int .u8 57), .lit (.int .u8 49), .lit (.int .u8 28), .lit (.int .u8 3), .lit (.int .u8 61), .lit (.int .u8 58), .lit (.int .u8 42), .lit (.int .u8 50), .lit (.int .u8 38), .lit (.int .u8 29), .lit (.int .u8 17), .lit (.int .u8 4), .lit (.int .u8 62), .lit (.int .u8 47), .lit (.int .u8 59), .lit (.int .u8 36), .lit (.int .u8 45), .lit (.int .u8 43), .lit (.int .u8 51), .lit (.int .u8 22), .lit (.int .u8 53), .lit (.int .u8 39), .lit (.int .u8 33), .lit (.int .u8 30), .lit (.int .u8 24), .lit (.int .u8 18), .lit (.int .u8 12), .lit (.int .u8 5), .lit (.int .u8 63), .lit (.int .u8 55), .lit (.int .u8 48), .lit (.int .u8 27), .lit (.int .u8 60), .lit (.int .u8 41), .lit (.int .u8 37), .lit (.int .u8 16), .lit (.int .u8 46), .lit (.int .u8 35), .lit (.int .u8 44), .lit (.int .u8 21), .lit (.int .u8 52), .lit (.int .u8 32), .lit (.int .u8 23), .lit (.int .u8 11), .lit (.int .u8 54), .lit (.int .u8 26), .lit (.int .u8 40), .lit (.int .u8 15), .lit (.int .u8 34), .lit (.int .u8 20), .lit (.int .u8 31), .lit (.int .u8 10), .lit (.int .u8 25), .lit (.int .u8 14), .lit (.int .u8 19), .lit (.int .u8 9), .lit (.int .u8 13), .lit (.int .u8 8), .lit (.int .u8 7), .lit (.int .u8 6)]
def laid_custody_hash_constants {H : Type} : DataW H := .agg [.lit (.int .u32 1116352408), .lit (.int .u32 1899447441), .lit (.int .u32 3049323471), .lit (.int .u32 3921009573), .lit (.int .u32 961987163), .lit (.int .u32 1508970993), .lit (.int .u32 2453635748), .lit (.int .u32 2870763221), .lit (.int .u32 3624381080), .lit (.int .u32 310598401), .lit (.int .u32 607225278), .lit (.int .u32 1426881987), .lit (.int .u32 1925078388), .lit (.int .u32 2162078206), .lit (.int .u32 2614888103), .lit (.int .u32 3248222580), .lit (.int .u32 3835390401), .lit (.int .u32 4022224774), .lit (.int .u32 264347078), .lit (.int .u32 604807628), .lit (.int .u32 770255983), .lit (.int .u32 1249150122), .lit (.int .u32 1555081692), .lit (.int .u32 1996064986), .lit (.int .u32 2554220882), .lit (.int .u32 2821834349), .lit (.int .u32 2952996808), .lit (.int .u32 3210313671), .lit (.int .u32 3336571891), .lit (.int .u32 3584528711), .lit (.int .u32 113926993), .lit (.int .u32 338241895), .lit (.int .u32 666307205), .lit (.int .u32 773529912), .lit (.int .u32 1294757372), .lit (.int .u32 1396182291), .lit (.int .u32 1695183700), .lit (.int .u32 1986661051), .lit (.int .u32 2177026350), .lit (.int .u32 2456956037), .lit (.int .u32 2730485921), .lit (.int .u32 2820302411), .lit (.int .u32 3259730800), .lit (.int .u32 3345764771), .lit (.int .u32 3516065817), .lit (.int .u32 3600352804), .lit (.int .u32 4094571909), .lit (.int .u32 275423344), .lit (.int .u32 430227734), .lit (.int .u32 506948616), .lit (.int .u32 659060556), .lit (.int .u32 883997877), .lit (.int .u32 958139571), .lit (.int .u32 1322822218), .lit (.int .u32 1537002063), .lit (.int .u32 1747873779), .lit (.int .u32 1955562222), .lit (.int .u32 2024104815), .lit (.int .u32 2227730452), .lit (.int .u32 2361852424), .lit (.int .u32 2428436474), .lit (.int .u32 2756734187), .lit (.int .u32 3204031479), .lit (.int .u32 3329325298)]

/-- 'custodylaw08.MerkleTreesMatchSpec': WHATEVER THE INPUT: true; the input reads as it did. -/
def merkleTreesMatchSpecSpec : ChangeSpec := { name := "merkleTreesMatchSpec", fn := fun _ => fun
  | [d1, d2, d3] => { results := [.lit (.bool true)], args := [d1, d2, d3] }
  | _ => none }
def merkleTreesMatchSpecRow : OpenClaim := { program := "ytclloimacncjgaadoor", sum := "bd9e24ad3fec7175449e911ba1a0261066c1cd0fa7b82adff4a4f6dafa206f15", func := "custody/custodylaw08.MerkleTreesMatchSpec", spec := "merkleTreesMatchSpec", unfollowed := true, recurses := true, named := ["custody/hash.constants", "math/bits.deBruijn32tab", "math/bits.deBruijn64tab", "custody/custodyref02.constants"], apart := false, laid := [("custody/custodyref02.constants", laid_custody_custodyref02_constants), ("math/bits.deBruijn32tab", laid_math_bits_deBruijn32tab), ("math/bits.deBruijn64tab", laid_math_bits_deBruijn64tab), ("custody/hash.constants", laid_custody_hash_constants)] }
def MerkleTreesMatchSpecSaid : Prop := merkleTreesMatchSpecRow.holds Tryd.pinned (OpenSpec.ofChange merkleTreesMatchSpecSpec)

/-- ITS FALSE NEIGHBOUR: 'it returns false'. Refute it at one input. -/
def merkleTreesMatchSpecWrong : ChangeSpec := { name := "merkleTreesMatchSpec", fn := fun _ => fun
  | [d1, d2, d3] => { results := [.lit (.bool false)], args := [d1, d2, d3] }
  | _ => none }
def MerkleTreesMatchSpecWrongFalsely : Prop := merkleTreesMatchSpecRow.holds Tryd.pinned (OpenSpec.ofChange merkleTreesMatchSpecWrong)

/-- 'custodylaw08.MerkleVerifyMatchesSpec': WHATEVER THE INPUT: true; the input reads as it did. -/
def merkleVerifyMatchesSpecSpec : ChangeSpec := { name := "merkleVerifyMatchesSpec", fn := fun _ => fun
  | [d] => { results := [.lit (.bool true)], args := [d] }
  | _ => none }
def merkleVerifyMatchesSpecRow : OpenClaim := { program := "ytclloimacncjgaadoor", sum := "bd9e24ad3fec7175449e911ba1a0261066c1cd0fa7b82adff4a4f6dafa206f15", func := "custody/custodylaw08.MerkleVerifyMatchesSpec", spec := "merkleVerifyMatchesSpec", unfollowed := true, recurses := true, named := ["custody/hash.constants", "math/bits.deBruijn32tab", "math/bits.deBruijn64tab", "custody/custodyref02.constants"], apart := false, laid := [("custody/custodyref02.constants", laid_custody_custodyref02_constants), ("math/bits.deBruijn32tab", laid_math_bits_deBruijn32tab), ("math/bits.deBruijn64tab", laid_math_bits_deBruijn64tab), ("custody/hash.constants", laid_custody_hash_constants)] }
def MerkleVerifyMatchesSpecSaid : Prop := merkleVerifyMatchesSpecRow.holds Tryd.pinned (OpenSpec.ofChange merkleVerifyMatchesSpecSpec)

/-- ITS FALSE NEIGHBOUR: 'it returns false'. Refute it at one input. -/
def merkleVerifyMatchesSpecWrong : ChangeSpec := { name := "merkleVerifyMatchesSpec", fn := fun _ => fun
  | [d] => { results := [.lit (.bool false)], args := [d] }
  | _ => none }
def MerkleVerifyMatchesSpecWrongFalsely : Prop := merkleVerifyMatchesSpecRow.holds Tryd.pinned (OpenSpec.ofChange merkleVerifyMatchesSpecWrong)

/-- 'custodylaw08.MerkleProofsAreAccepted': WHATEVER THE INPUT: true; the input reads as it did. -/
def merkleProofsAreAcceptedSpec : ChangeSpec := { name := "merkleProofsAreAccepted", fn := fun _ => fun
  | [d1, d2, d3] => { results := [.lit (.bool true)], args := [d1, d2, d3] }
  | _ => none }
def merkleProofsAreAcceptedRow : OpenClaim := { program := "ytclloimacncjgaadoor", sum := "bd9e24ad3fec7175449e911ba1a0261066c1cd0fa7b82adff4a4f6dafa206f15", func := "custody/custodylaw08.MerkleProofsAreAccepted", spec := "merkleProofsAreAccepted", unfollowed := true, recurses := true, named := ["custody/hash.constants", "math/bits.deBruijn32tab", "math/bits.deBruijn64tab"], apart := false, laid := [("math/bits.deBruijn32tab", laid_math_bits_deBruijn32tab), ("math/bits.deBruijn64tab", laid_math_bits_deBruijn64tab), ("custody/hash.constants", laid_custody_hash_constants)] }
def MerkleProofsAreAcceptedSaid : Prop := merkleProofsAreAcceptedRow.holds Tryd.pinned (OpenSpec.ofChange merkleProofsAreAcceptedSpec)

/-- ITS FALSE NEIGHBOUR: 'it returns false'. Refute it at one input. -/
def merkleProofsAreAcceptedWrong : ChangeSpec := { name := "merkleProofsAreAccepted", fn := fun _ => fun
  | [d1, d2, d3] => { results := [.lit (.bool false)], args := [d1, d2, d3] }
  | _ => none }
def MerkleProofsAreAcceptedWrongFalsely : Prop := merkleProofsAreAcceptedRow.holds Tryd.pinned (OpenSpec.ofChange merkleProofsAreAcceptedWrong)

/-- 'custodylaw08.MerkleClashMatchesSpec': WHATEVER THE INPUT: true; the input reads as it did. -/
def merkleClashMatchesSpecSpec : ChangeSpec := { name := "merkleClashMatchesSpec", fn := fun _ => fun
  | [d1, d2, d3] => { results := [.lit (.bool true)], args := [d1, d2, d3] }
  | _ => none }
def merkleClashMatchesSpecRow : OpenClaim := { program := "ytclloimacncjgaadoor", sum := "bd9e24ad3fec7175449e911ba1a0261066c1cd0fa7b82adff4a4f6dafa206f15", func := "custody/custodylaw08.MerkleClashMatchesSpec", spec := "merkleClashMatchesSpec", unfollowed := true, recurses := true, named := ["custody/hash.constants", "math/bits.deBruijn32tab", "math/bits.deBruijn64tab", "custody/custodyref02.constants"], apart := false, laid := [("custody/custodyref02.constants", laid_custody_custodyref02_constants), ("math/bits.deBruijn32tab", laid_math_bits_deBruijn32tab), ("math/bits.deBruijn64tab", laid_math_bits_deBruijn64tab), ("custody/hash.constants", laid_custody_hash_constants)] }
def MerkleClashMatchesSpecSaid : Prop := merkleClashMatchesSpecRow.holds Tryd.pinned (OpenSpec.ofChange merkleClashMatchesSpecSpec)

/-- ITS FALSE NEIGHBOUR: 'it returns false'. Refute it at one input. -/
def merkleClashMatchesSpecWrong : ChangeSpec := { name := "merkleClashMatchesSpec", fn := fun _ => fun
  | [d1, d2, d3] => { results := [.lit (.bool false)], args := [d1, d2, d3] }
  | _ => none }
def MerkleClashMatchesSpecWrongFalsely : Prop := merkleClashMatchesSpecRow.holds Tryd.pinned (OpenSpec.ofChange merkleClashMatchesSpecWrong)

/-- 'custodylaw08.MerkleHistoryIsFixed': WHATEVER THE INPUT: true; the input reads as it did. -/
def merkleHistoryIsFixedSpec : ChangeSpec := { name := "merkleHistoryIsFixed", fn := fun _ => fun
  | [d] => { results := [.lit (.bool true)], args := [d] }
  | _ => none }
def merkleHistoryIsFixedRow : OpenClaim := { program := "ytclloimacncjgaadoor", sum := "bd9e24ad3fec7175449e911ba1a0261066c1cd0fa7b82adff4a4f6dafa206f15", func := "custody/custodylaw08.MerkleHistoryIsFixed", spec := "merkleHistoryIsFixed", unfollowed := true, recurses := true, named := ["custody/hash.constants", "math/bits.deBruijn32tab", "math/bits.deBruijn64tab", "custody/custodyref02.constants"], apart := false, laid := [("custody/custodyref02.constants", laid_custody_custodyref02_constants), ("math/bits.deBruijn32tab", laid_math_bits_deBruijn32tab), ("math/bits.deBruijn64tab", laid_math_bits_deBruijn64tab), ("custody/hash.constants", laid_custody_hash_constants)] }
def MerkleHistoryIsFixedSaid : Prop := merkleHistoryIsFixedRow.holds Tryd.pinned (OpenSpec.ofChange merkleHistoryIsFixedSpec)

/-- ITS FALSE NEIGHBOUR: 'it returns false'. Refute it at one input. -/
def merkleHistoryIsFixedWrong : ChangeSpec := { name := "merkleHistoryIsFixed", fn := fun _ => fun
  | [d] => { results := [.lit (.bool false)], args := [d] }
  | _ => none }
def MerkleHistoryIsFixedWrongFalsely : Prop := merkleHistoryIsFixedRow.holds Tryd.pinned (OpenSpec.ofChange merkleHistoryIsFixedWrong)

/-- 'custodylaw08.MerklePeaksGrow': WHATEVER THE INPUT: true; the input reads as it did. -/
def merklePeaksGrowSpec : ChangeSpec := { name := "merklePeaksGrow", fn := fun _ => fun
  | [d1, d2] => { results := [.lit (.bool true)], args := [d1, d2] }
  | _ => none }
def merklePeaksGrowRow : OpenClaim := { program := "ytclloimacncjgaadoor", sum := "bd9e24ad3fec7175449e911ba1a0261066c1cd0fa7b82adff4a4f6dafa206f15", func := "custody/custodylaw08.MerklePeaksGrow", spec := "merklePeaksGrow", unfollowed := true, recurses := true, named := ["custody/hash.constants", "math/bits.deBruijn32tab", "math/bits.deBruijn64tab", "custody/custodyref02.constants"], apart := false, laid := [("custody/custodyref02.constants", laid_custody_custodyref02_constants), ("math/bits.deBruijn32tab", laid_math_bits_deBruijn32tab), ("math/bits.deBruijn64tab", laid_math_bits_deBruijn64tab), ("custody/hash.constants", laid_custody_hash_constants)] }
def MerklePeaksGrowSaid : Prop := merklePeaksGrowRow.holds Tryd.pinned (OpenSpec.ofChange merklePeaksGrowSpec)

/-- ITS FALSE NEIGHBOUR: 'it returns false'. Refute it at one input. -/
def merklePeaksGrowWrong : ChangeSpec := { name := "merklePeaksGrow", fn := fun _ => fun
  | [d1, d2] => { results := [.lit (.bool false)], args := [d1, d2] }
  | _ => none }
def MerklePeaksGrowWrongFalsely : Prop := merklePeaksGrowRow.holds Tryd.pinned (OpenSpec.ofChange merklePeaksGrowWrong)

/-- 'custodylaw08.MerklePeaksMatchSpec': WHATEVER THE INPUT: true; the input reads as it did. -/
def merklePeaksMatchSpecSpec : ChangeSpec := { name := "merklePeaksMatchSpec", fn := fun _ => fun
  | [d1, d2] => { results := [.lit (.bool true)], args := [d1, d2] }
  | _ => none }
def merklePeaksMatchSpecRow : OpenClaim := { program := "ytclloimacncjgaadoor", sum := "bd9e24ad3fec7175449e911ba1a0261066c1cd0fa7b82adff4a4f6dafa206f15", func := "custody/custodylaw08.MerklePeaksMatchSpec", spec := "merklePeaksMatchSpec", unfollowed := true, recurses := true, named := ["custody/hash.constants", "math/bits.deBruijn32tab", "math/bits.deBruijn64tab", "custody/custodyref02.constants"], apart := false, laid := [("custody/custodyref02.constants", laid_custody_custodyref02_constants), ("math/bits.deBruijn32tab", laid_math_bits_deBruijn32tab), ("math/bits.deBruijn64tab", laid_math_bits_deBruijn64tab), ("custody/hash.constants", laid_custody_hash_constants)] }
def MerklePeaksMatchSpecSaid : Prop := merklePeaksMatchSpecRow.holds Tryd.pinned (OpenSpec.ofChange merklePeaksMatchSpecSpec)

/-- ITS FALSE NEIGHBOUR: 'it returns false'. Refute it at one input. -/
def merklePeaksMatchSpecWrong : ChangeSpec := { name := "merklePeaksMatchSpec", fn := fun _ => fun
  | [d1, d2] => { results := [.lit (.bool false)], args := [d1, d2] }
  | _ => none }
def MerklePeaksMatchSpecWrongFalsely : Prop := merklePeaksMatchSpecRow.holds Tryd.pinned (OpenSpec.ofChange merklePeaksMatchSpecWrong)

/- THE SECOND FORM. 'bulk': how many values and letters a reading holds, each counted each time it is reached (what is shared counts as often as it is met; a slice's spare places count too). A statement '..UptoSaid' is the law's where the arguments, and the package variables that the reading takes, are together of bulk at most 1048576: NARROWER than '..Said'. Prove '..Said' where nothing that the law and all that it calls make is longer than what came in: it says more and counts as full. Else prove '..UptoSaid'. A law counts once. -/
mutual
def uptoBulk {H : Type} : DataW H → Nat
  | .lit (.string bytes) => bytes.length + 1
  | .lit _ => 1
  | .nil => 1
  | .ptr d => uptoBulk d + 1
  | .slice elems spare => uptoBulkAll elems + uptoBulkAll spare + 1
  | .agg parts => uptoBulkAll parts + 1
  | .iface _ d => uptoBulk d + 1
  | .map entries => uptoBulkEntries entries + 1
  | .held _ => 1
def uptoBulkAll {H : Type} : List (DataW H) → Nat
  | [] => 0
  | d :: r => uptoBulk d + uptoBulkAll r
def uptoBulkEntries {H : Type} : List (Lit × DataW H) → Nat
  | [] => 0
  | x :: r => uptoBulkEntry x + uptoBulkEntries r
def uptoBulkEntry {H : Type} : Lit × DataW H → Nat
  | (.string bytes, d) => bytes.length + uptoBulk d + 1
  | (_, d) => uptoBulk d + 1
 end
def uptoSmall : (H : Type) → List (DataW H) → Bool := fun _ ds => decide (uptoBulkAll ds ≤ 1048576)
def OpenSpec.upto (s : _root_.Go.ChangeSpec) : _root_.Go.OpenSpec := { _root_.Go.OpenSpec.ofChange s with cond := some uptoSmall }

/-- 'custodylaw08.MerkleTreesMatchSpec', WHERE WHAT IT READS IS OF BULK AT MOST 1048576: true; the input reads as it did. -/
def merkleTreesMatchSpecUptoRow : OpenClaim := { program := "ytclloimacncjgaadoor", sum := "bd9e24ad3fec7175449e911ba1a0261066c1cd0fa7b82adff4a4f6dafa206f15", func := "custody/custodylaw08.MerkleTreesMatchSpec", spec := "merkleTreesMatchSpec", unfollowed := true, recurses := true, named := ["custody/hash.constants", "math/bits.deBruijn32tab", "math/bits.deBruijn64tab", "custody/custodyref02.constants"], apart := false, laid := [("custody/custodyref02.constants", laid_custody_custodyref02_constants), ("math/bits.deBruijn32tab", laid_math_bits_deBruijn32tab), ("math/bits.deBruijn64tab", laid_math_bits_deBruijn64tab), ("custody/hash.constants", laid_custody_hash_constants)], narrowed := true }
def MerkleTreesMatchSpecUptoSaid : Prop := merkleTreesMatchSpecUptoRow.holds Tryd.pinned (OpenSpec.upto merkleTreesMatchSpecSpec)

/-- 'custodylaw08.MerkleVerifyMatchesSpec', WHERE WHAT IT READS IS OF BULK AT MOST 1048576: true; the input reads as it did. -/
def merkleVerifyMatchesSpecUptoRow : OpenClaim := { program := "ytclloimacncjgaadoor", sum := "bd9e24ad3fec7175449e911ba1a0261066c1cd0fa7b82adff4a4f6dafa206f15", func := "custody/custodylaw08.MerkleVerifyMatchesSpec", spec := "merkleVerifyMatchesSpec", unfollowed := true, recurses := true, named := ["custody/hash.constants", "math/bits.deBruijn32tab", "math/bits.deBruijn64tab", "custody/custodyref02.constants"], apart := false, laid := [("custody/custodyref02.constants", laid_custody_custodyref02_constants), ("math/bits.deBruijn32tab", laid_math_bits_deBruijn32tab), ("math/bits.deBruijn64tab", laid_math_bits_deBruijn64tab), ("custody/hash.constants", laid_custody_hash_constants)], narrowed := true }
def MerkleVerifyMatchesSpecUptoSaid : Prop := merkleVerifyMatchesSpecUptoRow.holds Tryd.pinned (OpenSpec.upto merkleVerifyMatchesSpecSpec)

/-- 'custodylaw08.MerkleProofsAreAccepted', WHERE WHAT IT READS IS OF BULK AT MOST 1048576: true; the input reads as it did. -/
def merkleProofsAreAcceptedUptoRow : OpenClaim := { program := "ytclloimacncjgaadoor", sum := "bd9e24ad3fec7175449e911ba1a0261066c1cd0fa7b82adff4a4f6dafa206f15", func := "custody/custodylaw08.MerkleProofsAreAccepted", spec := "merkleProofsAreAccepted", unfollowed := true, recurses := true, named := ["custody/hash.constants", "math/bits.deBruijn32tab", "math/bits.deBruijn64tab"], apart := false, laid := [("math/bits.deBruijn32tab", laid_math_bits_deBruijn32tab), ("math/bits.deBruijn64tab", laid_math_bits_deBruijn64tab), ("custody/hash.constants", laid_custody_hash_constants)], narrowed := true }
def MerkleProofsAreAcceptedUptoSaid : Prop := merkleProofsAreAcceptedUptoRow.holds Tryd.pinned (OpenSpec.upto merkleProofsAreAcceptedSpec)

/-- 'custodylaw08.MerkleClashMatchesSpec', WHERE WHAT IT READS IS OF BULK AT MOST 1048576: true; the input reads as it did. -/
def merkleClashMatchesSpecUptoRow : OpenClaim := { program := "ytclloimacncjgaadoor", sum := "bd9e24ad3fec7175449e911ba1a0261066c1cd0fa7b82adff4a4f6dafa206f15", func := "custody/custodylaw08.MerkleClashMatchesSpec", spec := "merkleClashMatchesSpec", unfollowed := true, recurses := true, named := ["custody/hash.constants", "math/bits.deBruijn32tab", "math/bits.deBruijn64tab", "custody/custodyref02.constants"], apart := false, laid := [("custody/custodyref02.constants", laid_custody_custodyref02_constants), ("math/bits.deBruijn32tab", laid_math_bits_deBruijn32tab), ("math/bits.deBruijn64tab", laid_math_bits_deBruijn64tab), ("custody/hash.constants", laid_custody_hash_constants)], narrowed := true }
def MerkleClashMatchesSpecUptoSaid : Prop := merkleClashMatchesSpecUptoRow.holds Tryd.pinned (OpenSpec.upto merkleClashMatchesSpecSpec)

/-- 'custodylaw08.MerkleHistoryIsFixed', WHERE WHAT IT READS IS OF BULK AT MOST 1048576: true; the input reads as it did. -/
def merkleHistoryIsFixedUptoRow : OpenClaim := { program := "ytclloimacncjgaadoor", sum := "bd9e24ad3fec7175449e911ba1a0261066c1cd0fa7b82adff4a4f6dafa206f15", func := "custody/custodylaw08.MerkleHistoryIsFixed", spec := "merkleHistoryIsFixed", unfollowed := true, recurses := true, named := ["custody/hash.constants", "math/bits.deBruijn32tab", "math/bits.deBruijn64tab", "custody/custodyref02.constants"], apart := false, laid := [("custody/custodyref02.constants", laid_custody_custodyref02_constants), ("math/bits.deBruijn32tab", laid_math_bits_deBruijn32tab), ("math/bits.deBruijn64tab", laid_math_bits_deBruijn64tab), ("custody/hash.constants", laid_custody_hash_constants)], narrowed := true }
def MerkleHistoryIsFixedUptoSaid : Prop := merkleHistoryIsFixedUptoRow.holds Tryd.pinned (OpenSpec.upto merkleHistoryIsFixedSpec)

/-- 'custodylaw08.MerklePeaksGrow', WHERE WHAT IT READS IS OF BULK AT MOST 1048576: true; the input reads as it did. -/
def merklePeaksGrowUptoRow : OpenClaim := { program := "ytclloimacncjgaadoor", sum := "bd9e24ad3fec7175449e911ba1a0261066c1cd0fa7b82adff4a4f6dafa206f15", func := "custody/custodylaw08.MerklePeaksGrow", spec := "merklePeaksGrow", unfollowed := true, recurses := true, named := ["custody/hash.constants", "math/bits.deBruijn32tab", "math/bits.deBruijn64tab", "custody/custodyref02.constants"], apart := false, laid := [("custody/custodyref02.constants", laid_custody_custodyref02_constants), ("math/bits.deBruijn32tab", laid_math_bits_deBruijn32tab), ("math/bits.deBruijn64tab", laid_math_bits_deBruijn64tab), ("custody/hash.constants", laid_custody_hash_constants)], narrowed := true }
def MerklePeaksGrowUptoSaid : Prop := merklePeaksGrowUptoRow.holds Tryd.pinned (OpenSpec.upto merklePeaksGrowSpec)

/-- 'custodylaw08.MerklePeaksMatchSpec', WHERE WHAT IT READS IS OF BULK AT MOST 1048576: true; the input reads as it did. -/
def merklePeaksMatchSpecUptoRow : OpenClaim := { program := "ytclloimacncjgaadoor", sum := "bd9e24ad3fec7175449e911ba1a0261066c1cd0fa7b82adff4a4f6dafa206f15", func := "custody/custodylaw08.MerklePeaksMatchSpec", spec := "merklePeaksMatchSpec", unfollowed := true, recurses := true, named := ["custody/hash.constants", "math/bits.deBruijn32tab", "math/bits.deBruijn64tab", "custody/custodyref02.constants"], apart := false, laid := [("custody/custodyref02.constants", laid_custody_custodyref02_constants), ("math/bits.deBruijn32tab", laid_math_bits_deBruijn32tab), ("math/bits.deBruijn64tab", laid_math_bits_deBruijn64tab), ("custody/hash.constants", laid_custody_hash_constants)], narrowed := true }
def MerklePeaksMatchSpecUptoSaid : Prop := merklePeaksMatchSpecUptoRow.holds Tryd.pinned (OpenSpec.upto merklePeaksMatchSpecSpec)

end Rows
end Go.Proofs.YtclloimacncjgaaDoor
