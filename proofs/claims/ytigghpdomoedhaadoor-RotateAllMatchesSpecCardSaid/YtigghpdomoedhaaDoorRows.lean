/-
  NARROWER THAN 'FOR EVERY INPUT', by the rows' own cells (each row's printed sentence says how): RotateKeyMatchesSpec: laid · RotateLinesMatchSpec: laid · RotateAllMatchesSpec: laid · RotateKeepsTheRest: laid · RotateLinesIncrease: laid · RotateFreshKeys: laid.
  DERIVED. THE GIVEN ROWS OF THIS SEAT. 6 by the template 'for every input the law returns true; each argument reads behind the call as it read before'; 0 by the template 'total and deterministic' (their statements: YtigghpdomoedhaaDoorTotals.lean).
  GIVEN WITH THE SEED: the statements are not yours to turn. If you find one false, say at which input.
  Laid BY PROGRAM, IN A SANDBOX (cutbox-rows.mjs): the forced cells as the released guide's own fill.sh prints them over the translation f907cec32f155e7f… (all of the seat's roots in one cut). By AI agents, Wed Nov 11 2026. No macro, syntax, notation, axiom, sorry.
-/
import Derived.Test.YtigghpdomoedhaaDoorChecked
import GoSem.Claim
import GoSem.ClaimJoined
import GoSem.ClaimMapViews
import Derived.JoinedTies
import Derived.KernelRfl
namespace Go.Proofs.YtigghpdomoedhaaDoor
/- THE CELL 'sum', in the pinned program and in every row, IS THE sha256 OF THE DUMP (.gsa) THAT YtigghpdomoedhaaDoorProg.lean LOADS. Nothing in Lean hashes anything: it is a label: what it is worth is what the hold of that sum in a sandbox is worth. -/
noncomputable def Tryd.pinned : Pinned := { name := "ytigghpdomoedhaadoor", sum := "f907cec32f155e7f4b6de2c7382b798505a66d46eb30149c93a117a61ec2ca9a", checked := Tryd.checked }
namespace Rows
def none {H : Type} : Left H := { results := [], args := [] }

/- WHAT THE LISTED PACKAGE-LEVEL VARIABLES READ AS WHEN THE CALL BEGINS. Each datum BY PROGRAM (the guide's laid-datum.mjs) off the statement by which the dump's own 'gosem.cut.vars' lays the variable. In a bare row this is a premise. The card (YtigghpdomoedhaaDoorCards.lean) ties it to the program's text. -/
def laid_custody_custodyref02_constants {H : Type} : DataW H := .agg [.lit (.int .u32 1116352408), .lit (.int .u32 1899447441), .lit (.int .u32 3049323471), .lit (.int .u32 3921009573), .lit (.int .u32 961987163), .lit (.int .u32 1508970993), .lit (.int .u32 2453635748), .lit (.int .u32 2870763221), .lit (.int .u32 3624381080), .lit (.int .u32 310598401), .lit (.int .u32 607225278), .lit (.int .u32 1426881987), .lit (.int .u32 1925078388), .lit (.int .u32 2162078206), .lit (.int .u32 2614888103), .lit (.int .u32 3248222580), .lit (.int .u32 3835390401), .lit (.int .u32 4022224774), .lit (.int .u32 264347078), .lit (.int .u32 604807628), .lit (.int .u32 770255983), .lit (.int .u32 1249150122), .lit (.int .u32 1555081692), .lit (.int .u32 1996064986), .lit (.int .u32 2554220882), .lit (.int .u32 2821834349), .lit (.int .u32 2952996808), .lit (.int .u32 3210313671), .lit (.int .u32 3336571891), .lit (.int .u32 3584528711), .lit (.int .u32 113926993), .lit (.int .u32 338241895), .lit (.int .u32 666307205), .lit (.int .u32 773529912), .lit (.int .u32 1294757372), .lit (.int .u32 1396182291), .lit (.int .u32 1695183700), .lit (.int .u32 1986661051), .lit (.int .u32 2177026350), .lit (.int .u32 2456956037), .lit (.int .u32 2730485921), .lit (.int .u32 2820302411), .lit (.int .u32 3259730800), .lit (.int .u32 3345764771), .lit (.int .u32 3516065817), .lit (.int .u32 3600352804), .lit (.int .u32 4094571909), .lit (.int .u32 275423344), .lit (.int .u32 430227734), .lit (.int .u32 506948616), .lit (.int .u32 659060556), .lit (.int .u32 883997877), .lit (.int .u32 958139571), .lit (.int .u32 1322822218), .lit (.int .u32 1537002063), .lit (.int .u32 1747873779), .lit (.int .u32 1955562222), .lit (.int .u32 2024104815), .lit (.int .u32 2227730452), .lit (.int .u32 2361852424), .lit (.int .u32 2428436474), .lit (.int .u32 2756734187), .lit (.int .u32 3204031479), .lit (.int .u32 3329325298)]
def laid_custody_hash_constants {H : Type} : DataW H := .agg [.lit (.int .u32 1116352408), .lit (.int .u32 1899447441), .lit (.int .u32 3049323471), .lit (.int .u32 3921009573), .lit (.int .u32 961987163), .lit (.int .u32 1508970993), .lit (.int .u32 2453635748), .lit (.int .u32 2870763221), .lit (.int .u32 3624381080), .lit (.int .u32 310598401), .lit (.int .u32 607225278), .lit (.int .u32 1426881987), .lit (.int .u32 1925078388), .lit (.int .u32 2162078206), .lit (.int .u32 2614888103), .lit (.int .u32 3248222580), .lit (.int .u32 3835390401), .lit (.int .u32 4022224774), .lit (.int .u32 264347078), .lit (.int .u32 604807628), .lit (.int .u32 770255983), .lit (.int .u32 1249150122), .lit (.int .u32 1555081692), .lit (.int .u32 1996064986), .lit (.int .u32 2554220882), .lit (.int .u32 2821834349), .lit (.int .u32 2952996808), .lit (.int .u32 3210313671), .lit (.int .u32 3336571891), .lit (.int .u32 3584528711), .lit (.int .u32 113926993), .lit (.int .u32 338241895), .lit (.int .u32 666307205), .lit (.int .u32 773529912), .lit (.int .u32 1294757372), .lit (.int .u32 1396182291), .lit (.int .u32 1695183700), .lit (.int .u32 1986661051), .lit (.int .u32 2177026350), .lit (.int .u32 2456956037), .lit (.int .u32 2730485921), .lit (.int .u32 2820302411), .lit (.int .u32 3259730800), .lit (.int .u32 3345764771), .lit (.int .u32 3516065817), .lit (.int .u32 3600352804), .lit (.int .u32 4094571909), .lit (.int .u32 275423344), .lit (.int .u32 430227734), .lit (.int .u32 506948616), .lit (.int .u32 659060556), .lit (.int .u32 883997877), .lit (.int .u32 958139571), .lit (.int .u32 1322822218), .lit (.int .u32 1537002063), .lit (.int .u32 1747873779), .lit (.int .u32 1955562222), .lit (.int .u32 2024104815), .lit (.int .u32 2227730452), .lit (.int .u32 2361852424), .lit (.int .u32 2428436474), .lit (.int .u32 2756734187), .lit (.int .u32 3204031479), .lit (.int .u32 3329325298)]
def laid_custody_perm_byRule {H : Type} : DataW H := .agg [.agg [.lit (.int .i64 1), .lit (.int .i64 128), .lit (.int .i64 512)], .agg [.lit (.int .i64 2), .lit (.int .i64 128), .lit (.int .i64 0)], .agg [.lit (.int .i64 3), .lit (.int .i64 128), .lit (.int .i64 512)], .agg [.lit (.int .i64 4), .lit (.int .i64 128), .lit (.int .i64 0)], .agg [.lit (.int .i64 5), .lit (.int .i64 256), .lit (.int .i64 0)]]

/-- 'custodylaw35.RotateKeyMatchesSpec': WHATEVER THE INPUT: true; the input reads as it did. -/
def rotateKeyMatchesSpecSpec : ChangeSpec := { name := "rotateKeyMatchesSpec", fn := fun _ => fun
  | [d1, d2, d3, d4] => { results := [.lit (.bool true)], args := [d1, d2, d3, d4] }
  | _ => none }
def rotateKeyMatchesSpecRow : OpenClaim := { program := "ytigghpdomoedhaadoor", sum := "f907cec32f155e7f4b6de2c7382b798505a66d46eb30149c93a117a61ec2ca9a", func := "custody/custodylaw35.RotateKeyMatchesSpec", spec := "rotateKeyMatchesSpec", unfollowed := true, recurses := true, named := ["custody/perm.byRule", "custody/hash.constants", "custody/custodyref02.constants"], apart := false, laid := [("custody/custodyref02.constants", laid_custody_custodyref02_constants), ("custody/hash.constants", laid_custody_hash_constants), ("custody/perm.byRule", laid_custody_perm_byRule)] }
def RotateKeyMatchesSpecSaid : Prop := rotateKeyMatchesSpecRow.holds Tryd.pinned (OpenSpec.ofChange rotateKeyMatchesSpecSpec)

/-- ITS FALSE NEIGHBOUR: 'it returns false'. Refute it at one input. -/
def rotateKeyMatchesSpecWrong : ChangeSpec := { name := "rotateKeyMatchesSpec", fn := fun _ => fun
  | [d1, d2, d3, d4] => { results := [.lit (.bool false)], args := [d1, d2, d3, d4] }
  | _ => none }
def RotateKeyMatchesSpecWrongFalsely : Prop := rotateKeyMatchesSpecRow.holds Tryd.pinned (OpenSpec.ofChange rotateKeyMatchesSpecWrong)

/-- 'custodylaw35.RotateLinesMatchSpec': WHATEVER THE INPUT: true; the input reads as it did. -/
def rotateLinesMatchSpecSpec : ChangeSpec := { name := "rotateLinesMatchSpec", fn := fun _ => fun
  | [d1, d2] => { results := [.lit (.bool true)], args := [d1, d2] }
  | _ => none }
def rotateLinesMatchSpecRow : OpenClaim := { program := "ytigghpdomoedhaadoor", sum := "f907cec32f155e7f4b6de2c7382b798505a66d46eb30149c93a117a61ec2ca9a", func := "custody/custodylaw35.RotateLinesMatchSpec", spec := "rotateLinesMatchSpec", unfollowed := true, recurses := true, named := ["custody/perm.byRule", "custody/hash.constants"], apart := false, laid := [("custody/hash.constants", laid_custody_hash_constants), ("custody/perm.byRule", laid_custody_perm_byRule)] }
def RotateLinesMatchSpecSaid : Prop := rotateLinesMatchSpecRow.holds Tryd.pinned (OpenSpec.ofChange rotateLinesMatchSpecSpec)

/-- ITS FALSE NEIGHBOUR: 'it returns false'. Refute it at one input. -/
def rotateLinesMatchSpecWrong : ChangeSpec := { name := "rotateLinesMatchSpec", fn := fun _ => fun
  | [d1, d2] => { results := [.lit (.bool false)], args := [d1, d2] }
  | _ => none }
def RotateLinesMatchSpecWrongFalsely : Prop := rotateLinesMatchSpecRow.holds Tryd.pinned (OpenSpec.ofChange rotateLinesMatchSpecWrong)

/-- 'custodylaw35.RotateAllMatchesSpec': WHATEVER THE INPUT: true; the input reads as it did. -/
def rotateAllMatchesSpecSpec : ChangeSpec := { name := "rotateAllMatchesSpec", fn := fun _ => fun
  | [d1, d2, d3, d4] => { results := [.lit (.bool true)], args := [d1, d2, d3, d4] }
  | _ => none }
def rotateAllMatchesSpecRow : OpenClaim := { program := "ytigghpdomoedhaadoor", sum := "f907cec32f155e7f4b6de2c7382b798505a66d46eb30149c93a117a61ec2ca9a", func := "custody/custodylaw35.RotateAllMatchesSpec", spec := "rotateAllMatchesSpec", unfollowed := true, recurses := true, named := ["custody/perm.byRule", "custody/hash.constants", "custody/custodyref02.constants"], apart := false, laid := [("custody/custodyref02.constants", laid_custody_custodyref02_constants), ("custody/hash.constants", laid_custody_hash_constants), ("custody/perm.byRule", laid_custody_perm_byRule)] }
def RotateAllMatchesSpecSaid : Prop := rotateAllMatchesSpecRow.holds Tryd.pinned (OpenSpec.ofChange rotateAllMatchesSpecSpec)

/-- ITS FALSE NEIGHBOUR: 'it returns false'. Refute it at one input. -/
def rotateAllMatchesSpecWrong : ChangeSpec := { name := "rotateAllMatchesSpec", fn := fun _ => fun
  | [d1, d2, d3, d4] => { results := [.lit (.bool false)], args := [d1, d2, d3, d4] }
  | _ => none }
def RotateAllMatchesSpecWrongFalsely : Prop := rotateAllMatchesSpecRow.holds Tryd.pinned (OpenSpec.ofChange rotateAllMatchesSpecWrong)

/-- 'custodylaw35.RotateKeepsTheRest': WHATEVER THE INPUT: true; the input reads as it did. -/
def rotateKeepsTheRestSpec : ChangeSpec := { name := "rotateKeepsTheRest", fn := fun _ => fun
  | [d1, d2, d3] => { results := [.lit (.bool true)], args := [d1, d2, d3] }
  | _ => none }
def rotateKeepsTheRestRow : OpenClaim := { program := "ytigghpdomoedhaadoor", sum := "f907cec32f155e7f4b6de2c7382b798505a66d46eb30149c93a117a61ec2ca9a", func := "custody/custodylaw35.RotateKeepsTheRest", spec := "rotateKeepsTheRest", unfollowed := true, recurses := true, named := ["custody/perm.byRule", "custody/hash.constants"], apart := false, laid := [("custody/hash.constants", laid_custody_hash_constants), ("custody/perm.byRule", laid_custody_perm_byRule)] }
def RotateKeepsTheRestSaid : Prop := rotateKeepsTheRestRow.holds Tryd.pinned (OpenSpec.ofChange rotateKeepsTheRestSpec)

/-- ITS FALSE NEIGHBOUR: 'it returns false'. Refute it at one input. -/
def rotateKeepsTheRestWrong : ChangeSpec := { name := "rotateKeepsTheRest", fn := fun _ => fun
  | [d1, d2, d3] => { results := [.lit (.bool false)], args := [d1, d2, d3] }
  | _ => none }
def RotateKeepsTheRestWrongFalsely : Prop := rotateKeepsTheRestRow.holds Tryd.pinned (OpenSpec.ofChange rotateKeepsTheRestWrong)

/-- 'custodylaw35.RotateLinesIncrease': WHATEVER THE INPUT: true; the input reads as it did. -/
def rotateLinesIncreaseSpec : ChangeSpec := { name := "rotateLinesIncrease", fn := fun _ => fun
  | [d1, d2, d3, d4] => { results := [.lit (.bool true)], args := [d1, d2, d3, d4] }
  | _ => none }
def rotateLinesIncreaseRow : OpenClaim := { program := "ytigghpdomoedhaadoor", sum := "f907cec32f155e7f4b6de2c7382b798505a66d46eb30149c93a117a61ec2ca9a", func := "custody/custodylaw35.RotateLinesIncrease", spec := "rotateLinesIncrease", unfollowed := true, recurses := true, named := ["custody/perm.byRule", "custody/hash.constants"], apart := false, laid := [("custody/hash.constants", laid_custody_hash_constants), ("custody/perm.byRule", laid_custody_perm_byRule)] }
def RotateLinesIncreaseSaid : Prop := rotateLinesIncreaseRow.holds Tryd.pinned (OpenSpec.ofChange rotateLinesIncreaseSpec)

/-- ITS FALSE NEIGHBOUR: 'it returns false'. Refute it at one input. -/
def rotateLinesIncreaseWrong : ChangeSpec := { name := "rotateLinesIncrease", fn := fun _ => fun
  | [d1, d2, d3, d4] => { results := [.lit (.bool false)], args := [d1, d2, d3, d4] }
  | _ => none }
def RotateLinesIncreaseWrongFalsely : Prop := rotateLinesIncreaseRow.holds Tryd.pinned (OpenSpec.ofChange rotateLinesIncreaseWrong)

/-- 'custodylaw35.RotateFreshKeys': WHATEVER THE INPUT: true; the input reads as it did. -/
def rotateFreshKeysSpec : ChangeSpec := { name := "rotateFreshKeys", fn := fun _ => fun
  | [d1, d2, d3, d4] => { results := [.lit (.bool true)], args := [d1, d2, d3, d4] }
  | _ => none }
def rotateFreshKeysRow : OpenClaim := { program := "ytigghpdomoedhaadoor", sum := "f907cec32f155e7f4b6de2c7382b798505a66d46eb30149c93a117a61ec2ca9a", func := "custody/custodylaw35.RotateFreshKeys", spec := "rotateFreshKeys", unfollowed := true, recurses := true, named := ["custody/perm.byRule", "custody/hash.constants"], apart := false, laid := [("custody/hash.constants", laid_custody_hash_constants), ("custody/perm.byRule", laid_custody_perm_byRule)] }
def RotateFreshKeysSaid : Prop := rotateFreshKeysRow.holds Tryd.pinned (OpenSpec.ofChange rotateFreshKeysSpec)

/-- ITS FALSE NEIGHBOUR: 'it returns false'. Refute it at one input. -/
def rotateFreshKeysWrong : ChangeSpec := { name := "rotateFreshKeys", fn := fun _ => fun
  | [d1, d2, d3, d4] => { results := [.lit (.bool false)], args := [d1, d2, d3, d4] }
  | _ => none }
def RotateFreshKeysWrongFalsely : Prop := rotateFreshKeysRow.holds Tryd.pinned (OpenSpec.ofChange rotateFreshKeysWrong)

/- THE SECOND FORM. 'bulk': how many values and letters a reading holds, each counted each time it is reached (what is shared counts as often as it is met; a slice's spare places count too). A statement '..UptoSaid' is the law's where the arguments, and the package variables that the reading takes, are together of bulk at most 1048576: NARROWER than '..Said'. Prove '..Said' where nothing that the law and all that it calls make is longer than what came in: it says more and counts as full. Else prove '..UptoSaid'. A law counts once. -/
mutual
def uptoBulk {H : Type} : DataW H → Nat
  | .lit (.string bytes) => bytes.length + 1
  | .lit _ => 1
  | .nil => 1
  | .ptr d => uptoBulk d + 1
  | .slice elems spare => uptoBulkAll elems + uptoBulkAll spare + 1
  | .agg parts => uptoBulkAll parts + 1
  | .iface _ d => uptoBulk d + 1
  | .map entries => uptoBulkEntries entries + 1
  | .held _ => 1
def uptoBulkAll {H : Type} : List (DataW H) → Nat
  | [] => 0
  | d :: r => uptoBulk d + uptoBulkAll r
def uptoBulkEntries {H : Type} : List (Lit × DataW H) → Nat
  | [] => 0
  | x :: r => uptoBulkEntry x + uptoBulkEntries r
def uptoBulkEntry {H : Type} : Lit × DataW H → Nat
  | (.string bytes, d) => bytes.length + uptoBulk d + 1
  | (_, d) => uptoBulk d + 1
 end
def uptoSmall : (H : Type) → List (DataW H) → Bool := fun _ ds => decide (uptoBulkAll ds ≤ 1048576)
def OpenSpec.upto (s : _root_.Go.ChangeSpec) : _root_.Go.OpenSpec := { _root_.Go.OpenSpec.ofChange s with cond := some uptoSmall }

/-- 'custodylaw35.RotateKeyMatchesSpec', WHERE WHAT IT READS IS OF BULK AT MOST 1048576: true; the input reads as it did. -/
def rotateKeyMatchesSpecUptoRow : OpenClaim := { program := "ytigghpdomoedhaadoor", sum := "f907cec32f155e7f4b6de2c7382b798505a66d46eb30149c93a117a61ec2ca9a", func := "custody/custodylaw35.RotateKeyMatchesSpec", spec := "rotateKeyMatchesSpec", unfollowed := true, recurses := true, named := ["custody/perm.byRule", "custody/hash.constants", "custody/custodyref02.constants"], apart := false, laid := [("custody/custodyref02.constants", laid_custody_custodyref02_constants), ("custody/hash.constants", laid_custody_hash_constants), ("custody/perm.byRule", laid_custody_perm_byRule)], narrowed := true }
def RotateKeyMatchesSpecUptoSaid : Prop := rotateKeyMatchesSpecUptoRow.holds Tryd.pinned (OpenSpec.upto rotateKeyMatchesSpecSpec)

/-- 'custodylaw35.RotateLinesMatchSpec', WHERE WHAT IT READS IS OF BULK AT MOST 1048576: true; the input reads as it did. -/
def rotateLinesMatchSpecUptoRow : OpenClaim := { program := "ytigghpdomoedhaadoor", sum := "f907cec32f155e7f4b6de2c7382b798505a66d46eb30149c93a117a61ec2ca9a", func := "custody/custodylaw35.RotateLinesMatchSpec", spec := "rotateLinesMatchSpec", unfollowed := true, recurses := true, named := ["custody/perm.byRule", "custody/hash.constants"], apart := false, laid := [("custody/hash.constants", laid_custody_hash_constants), ("custody/perm.byRule", laid_custody_perm_byRule)], narrowed := true }
def RotateLinesMatchSpecUptoSaid : Prop := rotateLinesMatchSpecUptoRow.holds Tryd.pinned (OpenSpec.upto rotateLinesMatchSpecSpec)

/-- 'custodylaw35.RotateAllMatchesSpec', WHERE WHAT IT READS IS OF BULK AT MOST 1048576: true; the input reads as it did. -/
def rotateAllMatchesSpecUptoRow : OpenClaim := { program := "ytigghpdomoedhaadoor", sum := "f907cec32f155e7f4b6de2c7382b798505a66d46eb30149c93a117a61ec2ca9a", func := "custody/custodylaw35.RotateAllMatchesSpec", spec := "rotateAllMatchesSpec", unfollowed := true, recurses := true, named := ["custody/perm.byRule", "custody/hash.constants", "custody/custodyref02.constants"], apart := false, laid := [("custody/custodyref02.constants", laid_custody_custodyref02_constants), ("custody/hash.constants", laid_custody_hash_constants), ("custody/perm.byRule", laid_custody_perm_byRule)], narrowed := true }
def RotateAllMatchesSpecUptoSaid : Prop := rotateAllMatchesSpecUptoRow.holds Tryd.pinned (OpenSpec.upto rotateAllMatchesSpecSpec)

/-- 'custodylaw35.RotateKeepsTheRest', WHERE WHAT IT READS IS OF BULK AT MOST 1048576: true; the input reads as it did. -/
def rotateKeepsTheRestUptoRow : OpenClaim := { program := "ytigghpdomoedhaadoor", sum := "f907cec32f155e7f4b6de2c7382b798505a66d46eb30149c93a117a61ec2ca9a", func := "custody/custodylaw35.RotateKeepsTheRest", spec := "rotateKeepsTheRest", unfollowed := true, recurses := true, named := ["custody/perm.byRule", "custody/hash.constants"], apart := false, laid := [("custody/hash.constants", laid_custody_hash_constants), ("custody/perm.byRule", laid_custody_perm_byRule)], narrowed := true }
def RotateKeepsTheRestUptoSaid : Prop := rotateKeepsTheRestUptoRow.holds Tryd.pinned (OpenSpec.upto rotateKeepsTheRestSpec)

/-- 'custodylaw35.RotateLinesIncrease', WHERE WHAT IT READS IS OF BULK AT MOST 1048576: true; the input reads as it did. -/
def rotateLinesIncreaseUptoRow : OpenClaim := { program := "ytigghpdomoedhaadoor", sum := "f907cec32f155e7f4b6de2c7382b798505a66d46eb30149c93a117a61ec2ca9a", func := "custody/custodylaw35.RotateLinesIncrease", spec := "rotateLinesIncrease", unfollowed := true, recurses := true, named := ["custody/perm.byRule", "custody/hash.constants"], apart := false, laid := [("custody/hash.constants", laid_custody_hash_constants), ("custody/perm.byRule", laid_custody_perm_byRule)], narrowed := true }
def RotateLinesIncreaseUptoSaid : Prop := rotateLinesIncreaseUptoRow.holds Tryd.pinned (OpenSpec.upto rotateLinesIncreaseSpec)

/-- 'custodylaw35.RotateFreshKeys', WHERE WHAT IT READS IS OF BULK AT MOST 1048576: true; the input reads as it did. -/
def rotateFreshKeysUptoRow : OpenClaim := { program := "ytigghpdomoedhaadoor", sum := "f907cec32f155e7f4b6de2c7382b798505a66d46eb30149c93a117a61ec2ca9a", func := "custody/custodylaw35.RotateFreshKeys", spec := "rotateFreshKeys", unfollowed := true, recurses := true, named := ["custody/perm.byRule", "custody/hash.constants"], apart := false, laid := [("custody/hash.constants", laid_custody_hash_constants), ("custody/perm.byRule", laid_custody_perm_byRule)], narrowed := true }
def RotateFreshKeysUptoSaid : Prop := rotateFreshKeysUptoRow.holds Tryd.pinned (OpenSpec.upto rotateFreshKeysSpec)

end Rows
end Go.Proofs.YtigghpdomoedhaaDoor
