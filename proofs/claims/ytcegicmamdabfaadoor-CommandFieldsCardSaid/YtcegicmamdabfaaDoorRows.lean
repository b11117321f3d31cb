/-
  NARROWER THAN 'FOR EVERY INPUT', by the rows' own cells (each row's printed sentence says how): CommandMatchesSpec: laid · CommandDecodesAsSpecified: laid · CommandRoundTrip: laid · CommandInjective: laid · CommandFields: laid · CommandNames: laid.
  DERIVED. THE GIVEN ROWS OF THIS SEAT. 6 by the template 'for every input the law returns true; each argument reads behind the call as it read before'; 0 by the template 'total and deterministic' (their statements: YtcegicmamdabfaaDoorTotals.lean).
  GIVEN WITH THE SEED: the statements are not yours to turn. If you find one false, say at which input.
  Laid BY PROGRAM, IN A SANDBOX (cutbox-rows.mjs): the forced cells as the released guide's own fill.sh prints them over the translation f381d5633780dc2e… (all of the seat's roots in one cut). By AI agents, Wed Nov 11 2026. No macro, syntax, notation, axiom, sorry.
-/
import Derived.Test.YtcegicmamdabfaaDoorChecked
import GoSem.Claim
import GoSem.ClaimJoined
import GoSem.ClaimMapViews
import Derived.JoinedTies
import Derived.KernelRfl
namespace Go.Proofs.YtcegicmamdabfaaDoor
/- THE CELL 'sum', in the pinned program and in every row, IS THE sha256 OF THE DUMP (.gsa) THAT YtcegicmamdabfaaDoorProg.lean LOADS. Nothing in Lean hashes anything: it is a label: what it is worth is what the hold of that sum in a sandbox is worth. -/
noncomputable def Tryd.pinned : Pinned := { name := "ytcegicmamdabfaadoor", sum := "f381d5633780dc2e2a3fa85a549351d74df1c0d82794d2157dfac0794dcb3095", checked := Tryd.checked }
namespace Rows
def none {H : Type} : Left H := { results := [], args := [] }

/- WHAT THE LISTED PACKAGE-LEVEL VARIABLES READ AS WHEN THE CALL BEGINS. Each datum BY PROGRAM (the guide's laid-datum.mjs) off the statement by which the dump's own 'gosem.cut.vars' lays the variable. In a bare row this is a premise. The card (YtcegicmamdabfaaDoorCards.lean) ties it to the program's text. -/
def laid_custody_custodyref02_constants {H : Type} : DataW H := .agg [.lit (.int .u32 1116352408), .lit (.int .u32 1899447441), .lit (.int .u32 3049323471), .lit (.int .u32 3921009573), .lit (.int .u32 961987163), .lit (.int .u32 1508970993), .lit (.int .u32 2453635748), .lit (.int .u32 2870763221), .lit (.int .u32 3624381080), .lit (.int .u32 310598401), .lit (.int .u32 607225278), .lit (.int .u32 1426881987), .lit (.int .u32 1925078388), .lit (.int .u32 2162078206), .lit (.int .u32 2614888103), .lit (.int .u32 3248222580), .lit (.int .u32 3835390401), .lit (.int .u32 4022224774), .lit (.int .u32 264347078), .lit (.int .u32 604807628), .lit (.int .u32 770255983), .lit (.int .u32 1249150122), .lit (.int .u32 1555081692), .lit (.int .u32 1996064986), .lit (.int .u32 2554220882), .lit (.int .u32 2821834349), .lit (.int .u32 2952996808), .lit (.int .u32 3210313671), .lit (.int .u32 3336571891), .lit (.int .u32 3584528711), .lit (.int .u32 113926993), .lit (.int .u32 338241895), .lit (.int .u32 666307205), .lit (.int .u32 773529912), .lit (.int .u32 1294757372), .lit (.int .u32 1396182291), .lit (.int .u32 1695183700), .lit (.int .u32 1986661051), .lit (.int .u32 2177026350), .lit (.int .u32 2456956037), .lit (.int .u32 2730485921), .lit (.int .u32 2820302411), .lit (.int .u32 3259730800), .lit (.int .u32 3345764771), .lit (.int .u32 3516065817), .lit (.int .u32 3600352804), .lit (.int .u32 4094571909), .lit (.int .u32 275423344), .lit (.int .u32 430227734), .lit (.int .u32 506948616), .lit (.int .u32 659060556), .lit (.int .u32 883997877), .lit (.int .u32 958139571), .lit (.int .u32 1322822218), .lit (.int .u32 1537002063), .lit (.int .u32 1747873779), .lit (.int .u32 1955562222), .lit (.int .u32 2024104815), .lit (.int .u32 2227730452), .lit (.int .u32 2361852424), .lit (.int .u32 2428436474), .lit (.int .u32 2756734187), .lit (.int .u32 3204031479), .lit (.int .u32 3329325298)]
def laid_custody_hash_constants {H : Type} : DataW H := .agg [.lit (.int .u32 1116352408), .lit (.int .u32 1899447441), .lit (.int .u32 3049323471), .lit (.int .u32 3921009573), .lit (.int .u32 961987163), .lit (.int .u32 1508970993), .lit (.int .u32 2453635748), .lit (.int .u32 2870763221), .lit (.int .u32 3624381080), .lit (.int .u32 310598401), .lit (.int .u32 607225278), .lit (.int .u32 1426881987), .lit (.int .u32 1925078388), .lit (.int .u32 2162078206), .lit (.int .u32 2614888103), .lit (.int .u32 3248222580), .lit (.int .u32 3835390401), .lit (.int .u32 4022224774), .lit (.int .u32 264347078), .lit (.int .u32 604807628), .lit (.int .u32 770255983), .lit (.int .u32 1249150122), .lit (.int .u32 1555081692), .lit (.int .u32 1996064986), .lit (.int .u32 2554220882), .lit (.int .u32 2821834349), .lit (.int .u32 2952996808), .lit (.int .u32 3210313671), .lit (.int .u32 3336571891), .lit (.int .u32 3584528711), .lit (.int .u32 113926993), .lit (.int .u32 338241895), .lit (.int .u32 666307205), .lit (.int .u32 773529912), .lit (.int .u32 1294757372), .lit (.int .u32 1396182291), .lit (.int .u32 1695183700), .lit (.int .u32 1986661051), .lit (.int .u32 2177026350), .lit (.int .u32 2456956037), .lit (.int .u32 2730485921), .lit (.int .u32 2820302411), .lit (.int .u32 3259730800), .lit (.int .u32 3345764771), .lit (.int .u32 3516065817), .lit (.int .u32 3600352804), .lit (.int .u32 4094571909), .lit (.int .u32 275423344), .lit (.int .u32 430227734), .lit (.int .u32 506948616), .lit (.int .u32 659060556), .lit (.int .u32 883997877), .lit (.int .u32 958139571), .lit (.int .u32 1322822218), .lit (.int .u32 1537002063), .lit (.int .u32 1747873779), .lit (.int .u32 1955562222), .lit (.int .u32 2024104815), .lit (.int .u32 2227730452), .lit (.int .u32 2361852424), .lit (.int .u32 2428436474), .lit (.int .u32 2756734187), .lit (.int .u32 3204031479), .lit (.int .u32 3329325298)]
def laid_custody_command_rows {H : Type} : DataW H := .agg [.agg [.lit (.string [103, 101, 110, 101, 114, 97, 116, 101]), .lit (.int .i64 4), .lit (.int .i64 0), .lit (.int .i64 0)], .agg [.lit (.string [105, 109, 112, 111, 114, 116]), .lit (.int .i64 20), .lit (.int .i64 32), .lit (.int .i64 32)], .agg [.lit (.string [101, 120, 112, 111, 114, 116]), .lit (.int .i64 1), .lit (.int .i64 0), .lit (.int .i64 0)], .agg [.lit (.string [101, 110, 99, 114, 121, 112, 116]), .lit (.int .i64 17), .lit (.int .i64 0), .lit (.int .i64 1000)], .agg [.lit (.string [100, 101, 99, 114, 121, 112, 116]), .lit (.int .i64 17), .lit (.int .i64 28), .lit (.int .i64 1028)], .agg [.lit (.string [109, 97, 99]), .lit (.int .i64 17), .lit (.int .i64 0), .lit (.int .i64 1000)], .agg [.lit (.string [119, 114, 97, 112]), .lit (.int .i64 3), .lit (.int .i64 0), .lit (.int .i64 0)], .agg [.lit (.string [117, 110, 119, 114, 97, 112]), .lit (.int .i64 17), .lit (.int .i64 1), .lit (.int .i64 200)], .agg [.lit (.string [114, 97, 119, 45, 119, 114, 97, 112]), .lit (.int .i64 3), .lit (.int .i64 0), .lit (.int .i64 0)], .agg [.lit (.string [114, 97, 119, 45, 117, 110, 119, 114, 97, 112]), .lit (.int .i64 21), .lit (.int .i64 60), .lit (.int .i64 60)], .agg [.lit (.string [100, 101, 114, 105, 118, 101]), .lit (.int .i64 5), .lit (.int .i64 0), .lit (.int .i64 0)], .agg [.lit (.string [100, 101, 115, 116, 114, 111, 121]), .lit (.int .i64 1), .lit (.int .i64 0), .lit (.int .i64 0)], .agg [.lit (.string [114, 111, 116, 97, 116, 101]), .lit (.int .i64 1), .lit (.int .i64 0), .lit (.int .i64 0)], .agg [.lit (.string [98, 97, 99, 107, 117, 112]), .lit (.int .i64 0), .lit (.int .i64 0), .lit (.int .i64 0)], .agg [.lit (.string [114, 101, 115, 116, 111, 114, 101]), .lit (.int .i64 16), .lit (.int .i64 1), .lit (.int .i64 1048576)], .agg [.lit (.string [114, 101, 110, 101, 119]), .lit (.int .i64 0), .lit (.int .i64 0), .lit (.int .i64 0)], .agg [.lit (.string [114, 101, 112, 108, 97, 99, 101]), .lit (.int .i64 16), .lit (.int .i64 1), .lit (.int .i64 2000)], .agg [.lit (.string [115, 112, 108, 105, 116]), .lit (.int .i64 8), .lit (.int .i64 0), .lit (.int .i64 0)], .agg [.lit (.string [109, 101, 114, 103, 101]), .lit (.int .i64 16), .lit (.int .i64 1), .lit (.int .i64 1048576)], .agg [.lit (.string [117, 110, 108, 111, 99, 107]), .lit (.int .i64 0), .lit (.int .i64 0), .lit (.int .i64 0)], .agg [.lit (.string [114, 101, 107, 101, 121]), .lit (.int .i64 0), .lit (.int .i64 0), .lit (.int .i64 0)], .agg [.lit (.string [100, 101, 99, 111, 109, 109, 105, 115, 115, 105, 111, 110]), .lit (.int .i64 0), .lit (.int .i64 0), .lit (.int .i64 0)], .agg [.lit (.string [112, 114, 111, 112, 111, 115, 101]), .lit (.int .i64 18), .lit (.int .i64 16), .lit (.int .i64 16)], .agg [.lit (.string [97, 112, 112, 114, 111, 118, 101]), .lit (.int .i64 19), .lit (.int .i64 1), .lit (.int .i64 2000)], .agg [.lit (.string [119, 105, 116, 104, 100, 114, 97, 119]), .lit (.int .i64 19), .lit (.int .i64 1), .lit (.int .i64 2000)], .agg [.lit (.string [104, 101, 97, 100]), .lit (.int .i64 0), .lit (.int .i64 0), .lit (.int .i64 0)], .agg [.lit (.string [112, 105, 101, 99, 101]), .lit (.int .i64 3), .lit (.int .i64 0), .lit (.int .i64 0)]]

/-- 'custodylaw28.CommandMatchesSpec': WHATEVER THE INPUT: true; the input reads as it did. -/
def commandMatchesSpecSpec : ChangeSpec := { name := "commandMatchesSpec", fn := fun _ => fun
  | [d1, d2, d3, d4] => { results := [.lit (.bool true)], args := [d1, d2, d3, d4] }
  | _ => none }
def commandMatchesSpecRow : OpenClaim := { program := "ytcegicmamdabfaadoor", sum := "f381d5633780dc2e2a3fa85a549351d74df1c0d82794d2157dfac0794dcb3095", func := "custody/custodylaw28.CommandMatchesSpec", spec := "commandMatchesSpec", unfollowed := true, recurses := true, named := ["custody/command.rows", "custody/hash.constants", "custody/custodyref02.constants"], apart := false, laid := [("custody/custodyref02.constants", laid_custody_custodyref02_constants), ("custody/hash.constants", laid_custody_hash_constants), ("custody/command.rows", laid_custody_command_rows)] }
def CommandMatchesSpecSaid : Prop := commandMatchesSpecRow.holds Tryd.pinned (OpenSpec.ofChange commandMatchesSpecSpec)

/-- ITS FALSE NEIGHBOUR: 'it returns false'. Refute it at one input. -/
def commandMatchesSpecWrong : ChangeSpec := { name := "commandMatchesSpec", fn := fun _ => fun
  | [d1, d2, d3, d4] => { results := [.lit (.bool false)], args := [d1, d2, d3, d4] }
  | _ => none }
def CommandMatchesSpecWrongFalsely : Prop := commandMatchesSpecRow.holds Tryd.pinned (OpenSpec.ofChange commandMatchesSpecWrong)

/-- 'custodylaw28.CommandDecodesAsSpecified': WHATEVER THE INPUT: true; the input reads as it did. -/
def commandDecodesAsSpecifiedSpec : ChangeSpec := { name := "commandDecodesAsSpecified", fn := fun _ => fun
  | [d] => { results := [.lit (.bool true)], args := [d] }
  | _ => none }
def commandDecodesAsSpecifiedRow : OpenClaim := { program := "ytcegicmamdabfaadoor", sum := "f381d5633780dc2e2a3fa85a549351d74df1c0d82794d2157dfac0794dcb3095", func := "custody/custodylaw28.CommandDecodesAsSpecified", spec := "commandDecodesAsSpecified", unfollowed := true, recurses := true, named := ["custody/command.rows", "custody/hash.constants", "custody/custodyref02.constants"], apart := false, laid := [("custody/custodyref02.constants", laid_custody_custodyref02_constants), ("custody/hash.constants", laid_custody_hash_constants), ("custody/command.rows", laid_custody_command_rows)] }
def CommandDecodesAsSpecifiedSaid : Prop := commandDecodesAsSpecifiedRow.holds Tryd.pinned (OpenSpec.ofChange commandDecodesAsSpecifiedSpec)

/-- ITS FALSE NEIGHBOUR: 'it returns false'. Refute it at one input. -/
def commandDecodesAsSpecifiedWrong : ChangeSpec := { name := "commandDecodesAsSpecified", fn := fun _ => fun
  | [d] => { results := [.lit (.bool false)], args := [d] }
  | _ => none }
def CommandDecodesAsSpecifiedWrongFalsely : Prop := commandDecodesAsSpecifiedRow.holds Tryd.pinned (OpenSpec.ofChange commandDecodesAsSpecifiedWrong)

/-- 'custodylaw28.CommandRoundTrip': WHATEVER THE INPUT: true; the input reads as it did. -/
def commandRoundTripSpec : ChangeSpec := { name := "commandRoundTrip", fn := fun _ => fun
  | [d] => { results := [.lit (.bool true)], args := [d] }
  | _ => none }
def commandRoundTripRow : OpenClaim := { program := "ytcegicmamdabfaadoor", sum := "f381d5633780dc2e2a3fa85a549351d74df1c0d82794d2157dfac0794dcb3095", func := "custody/custodylaw28.CommandRoundTrip", spec := "commandRoundTrip", unfollowed := true, recurses := true, named := ["custody/command.rows", "custody/hash.constants", "custody/custodyref02.constants"], apart := false, laid := [("custody/custodyref02.constants", laid_custody_custodyref02_constants), ("custody/hash.constants", laid_custody_hash_constants), ("custody/command.rows", laid_custody_command_rows)] }
def CommandRoundTripSaid : Prop := commandRoundTripRow.holds Tryd.pinned (OpenSpec.ofChange commandRoundTripSpec)

/-- ITS FALSE NEIGHBOUR: 'it returns false'. Refute it at one input. -/
def commandRoundTripWrong : ChangeSpec := { name := "commandRoundTrip", fn := fun _ => fun
  | [d] => { results := [.lit (.bool false)], args := [d] }
  | _ => none }
def CommandRoundTripWrongFalsely : Prop := commandRoundTripRow.holds Tryd.pinned (OpenSpec.ofChange commandRoundTripWrong)

/-- 'custodylaw28.CommandInjective': WHATEVER THE INPUT: true; the input reads as it did. -/
def commandInjectiveSpec : ChangeSpec := { name := "commandInjective", fn := fun _ => fun
  | [d1, d2] => { results := [.lit (.bool true)], args := [d1, d2] }
  | _ => none }
def commandInjectiveRow : OpenClaim := { program := "ytcegicmamdabfaadoor", sum := "f381d5633780dc2e2a3fa85a549351d74df1c0d82794d2157dfac0794dcb3095", func := "custody/custodylaw28.CommandInjective", spec := "commandInjective", unfollowed := true, recurses := true, named := ["custody/command.rows", "custody/hash.constants", "custody/custodyref02.constants"], apart := false, laid := [("custody/custodyref02.constants", laid_custody_custodyref02_constants), ("custody/hash.constants", laid_custody_hash_constants), ("custody/command.rows", laid_custody_command_rows)] }
def CommandInjectiveSaid : Prop := commandInjectiveRow.holds Tryd.pinned (OpenSpec.ofChange commandInjectiveSpec)

/-- ITS FALSE NEIGHBOUR: 'it returns false'. Refute it at one input. -/
def commandInjectiveWrong : ChangeSpec := { name := "commandInjective", fn := fun _ => fun
  | [d1, d2] => { results := [.lit (.bool false)], args := [d1, d2] }
  | _ => none }
def CommandInjectiveWrongFalsely : Prop := commandInjectiveRow.holds Tryd.pinned (OpenSpec.ofChange commandInjectiveWrong)

/-- 'custodylaw28.CommandFields': WHATEVER THE INPUT: true; the input reads as it did. -/
def commandFieldsSpec : ChangeSpec := { name := "commandFields", fn := fun _ => fun
  | [d] => { results := [.lit (.bool true)], args := [d] }
  | _ => none }
def commandFieldsRow : OpenClaim := { program := "ytcegicmamdabfaadoor", sum := "f381d5633780dc2e2a3fa85a549351d74df1c0d82794d2157dfac0794dcb3095", func := "custody/custodylaw28.CommandFields", spec := "commandFields", unfollowed := true, recurses := true, named := ["custody/command.rows", "custody/hash.constants", "custody/custodyref02.constants"], apart := false, laid := [("custody/custodyref02.constants", laid_custody_custodyref02_constants), ("custody/hash.constants", laid_custody_hash_constants), ("custody/command.rows", laid_custody_command_rows)] }
def CommandFieldsSaid : Prop := commandFieldsRow.holds Tryd.pinned (OpenSpec.ofChange commandFieldsSpec)

/-- ITS FALSE NEIGHBOUR: 'it returns false'. Refute it at one input. -/
def commandFieldsWrong : ChangeSpec := { name := "commandFields", fn := fun _ => fun
  | [d] => { results := [.lit (.bool false)], args := [d] }
  | _ => none }
def CommandFieldsWrongFalsely : Prop := commandFieldsRow.holds Tryd.pinned (OpenSpec.ofChange commandFieldsWrong)

/-- 'custodylaw28.CommandNames': WHATEVER THE INPUT: true; the input reads as it did. -/
def commandNamesSpec : ChangeSpec := { name := "commandNames", fn := fun _ => fun
  | [d] => { results := [.lit (.bool true)], args := [d] }
  | _ => none }
def commandNamesRow : OpenClaim := { program := "ytcegicmamdabfaadoor", sum := "f381d5633780dc2e2a3fa85a549351d74df1c0d82794d2157dfac0794dcb3095", func := "custody/custodylaw28.CommandNames", spec := "commandNames", unfollowed := true, recurses := true, named := ["custody/command.rows", "custody/hash.constants", "custody/custodyref02.constants"], apart := false, laid := [("custody/custodyref02.constants", laid_custody_custodyref02_constants), ("custody/hash.constants", laid_custody_hash_constants), ("custody/command.rows", laid_custody_command_rows)] }
def CommandNamesSaid : Prop := commandNamesRow.holds Tryd.pinned (OpenSpec.ofChange commandNamesSpec)

/-- ITS FALSE NEIGHBOUR: 'it returns false'. Refute it at one input. -/
def commandNamesWrong : ChangeSpec := { name := "commandNames", fn := fun _ => fun
  | [d] => { results := [.lit (.bool false)], args := [d] }
  | _ => none }
def CommandNamesWrongFalsely : Prop := commandNamesRow.holds Tryd.pinned (OpenSpec.ofChange commandNamesWrong)

/- THE SECOND FORM. 'bulk': how many values and letters a reading holds, each counted each time it is reached (what is shared counts as often as it is met; a slice's spare places count too). A statement '..UptoSaid' is the law's where the arguments, and the package variables that the reading takes, are together of bulk at most 1048576: NARROWER than '..Said'. Prove '..Said' where nothing that the law and all that it calls make is longer than what came in: it says more and counts as full. Else prove '..UptoSaid'. A law counts once. -/
mutual
def uptoBulk {H : Type} : DataW H → Nat
  | .lit (.string bytes) => bytes.length + 1
  | .lit _ => 1
  | .nil => 1
  | .ptr d => uptoBulk d + 1
  | .slice elems spare => uptoBulkAll elems + uptoBulkAll spare + 1
  | .agg parts => uptoBulkAll parts + 1
  | .iface _ d => uptoBulk d + 1
  | .map entries => uptoBulkEntries entries + 1
  | .held _ => 1
def uptoBulkAll {H : Type} : List (DataW H) → Nat
  | [] => 0
  | d :: r => uptoBulk d + uptoBulkAll r
def uptoBulkEntries {H : Type} : List (Lit × DataW H) → Nat
  | [] => 0
  | x :: r => uptoBulkEntry x + uptoBulkEntries r
def uptoBulkEntry {H : Type} : Lit × DataW H → Nat
  | (.string bytes, d) => bytes.length + uptoBulk d + 1
  | (_, d) => uptoBulk d + 1
 end
def uptoSmall : (H : Type) → List (DataW H) → Bool := fun _ ds => decide (uptoBulkAll ds ≤ 1048576)
def OpenSpec.upto (s : _root_.Go.ChangeSpec) : _root_.Go.OpenSpec := { _root_.Go.OpenSpec.ofChange s with cond := some uptoSmall }

/-- 'custodylaw28.CommandMatchesSpec', WHERE WHAT IT READS IS OF BULK AT MOST 1048576: true; the input reads as it did. -/
def commandMatchesSpecUptoRow : OpenClaim := { program := "ytcegicmamdabfaadoor", sum := "f381d5633780dc2e2a3fa85a549351d74df1c0d82794d2157dfac0794dcb3095", func := "custody/custodylaw28.CommandMatchesSpec", spec := "commandMatchesSpec", unfollowed := true, recurses := true, named := ["custody/command.rows", "custody/hash.constants", "custody/custodyref02.constants"], apart := false, laid := [("custody/custodyref02.constants", laid_custody_custodyref02_constants), ("custody/hash.constants", laid_custody_hash_constants), ("custody/command.rows", laid_custody_command_rows)], narrowed := true }
def CommandMatchesSpecUptoSaid : Prop := commandMatchesSpecUptoRow.holds Tryd.pinned (OpenSpec.upto commandMatchesSpecSpec)

/-- 'custodylaw28.CommandDecodesAsSpecified', WHERE WHAT IT READS IS OF BULK AT MOST 1048576: true; the input reads as it did. -/
def commandDecodesAsSpecifiedUptoRow : OpenClaim := { program := "ytcegicmamdabfaadoor", sum := "f381d5633780dc2e2a3fa85a549351d74df1c0d82794d2157dfac0794dcb3095", func := "custody/custodylaw28.CommandDecodesAsSpecified", spec := "commandDecodesAsSpecified", unfollowed := true, recurses := true, named := ["custody/command.rows", "custody/hash.constants", "custody/custodyref02.constants"], apart := false, laid := [("custody/custodyref02.constants", laid_custody_custodyref02_constants), ("custody/hash.constants", laid_custody_hash_constants), ("custody/command.rows", laid_custody_command_rows)], narrowed := true }
def CommandDecodesAsSpecifiedUptoSaid : Prop := commandDecodesAsSpecifiedUptoRow.holds Tryd.pinned (OpenSpec.upto commandDecodesAsSpecifiedSpec)

/-- 'custodylaw28.CommandRoundTrip', WHERE WHAT IT READS IS OF BULK AT MOST 1048576: true; the input reads as it did. -/
def commandRoundTripUptoRow : OpenClaim := { program := "ytcegicmamdabfaadoor", sum := "f381d5633780dc2e2a3fa85a549351d74df1c0d82794d2157dfac0794dcb3095", func := "custody/custodylaw28.CommandRoundTrip", spec := "commandRoundTrip", unfollowed := true, recurses := true, named := ["custody/command.rows", "custody/hash.constants", "custody/custodyref02.constants"], apart := false, laid := [("custody/custodyref02.constants", laid_custody_custodyref02_constants), ("custody/hash.constants", laid_custody_hash_constants), ("custody/command.rows", laid_custody_command_rows)], narrowed := true }
def CommandRoundTripUptoSaid : Prop := commandRoundTripUptoRow.holds Tryd.pinned (OpenSpec.upto commandRoundTripSpec)

/-- 'custodylaw28.CommandInjective', WHERE WHAT IT READS IS OF BULK AT MOST 1048576: true; the input reads as it did. -/
def commandInjectiveUptoRow : OpenClaim := { program := "ytcegicmamdabfaadoor", sum := "f381d5633780dc2e2a3fa85a549351d74df1c0d82794d2157dfac0794dcb3095", func := "custody/custodylaw28.CommandInjective", spec := "commandInjective", unfollowed := true, recurses := true, named := ["custody/command.rows", "custody/hash.constants", "custody/custodyref02.constants"], apart := false, laid := [("custody/custodyref02.constants", laid_custody_custodyref02_constants), ("custody/hash.constants", laid_custody_hash_constants), ("custody/command.rows", laid_custody_command_rows)], narrowed := true }
def CommandInjectiveUptoSaid : Prop := commandInjectiveUptoRow.holds Tryd.pinned (OpenSpec.upto commandInjectiveSpec)

/-- 'custodylaw28.CommandFields', WHERE WHAT IT READS IS OF BULK AT MOST 1048576: true; the input reads as it did. -/
def commandFieldsUptoRow : OpenClaim := { program := "ytcegicmamdabfaadoor", sum := "f381d5633780dc2e2a3fa85a549351d74df1c0d82794d2157dfac0794dcb3095", func := "custody/custodylaw28.CommandFields", spec := "commandFields", unfollowed := true, recurses := true, named := ["custody/command.rows", "custody/hash.constants", "custody/custodyref02.constants"], apart := false, laid := [("custody/custodyref02.constants", laid_custody_custodyref02_constants), ("custody/hash.constants", laid_custody_hash_constants), ("custody/command.rows", laid_custody_command_rows)], narrowed := true }
def CommandFieldsUptoSaid : Prop := commandFieldsUptoRow.holds Tryd.pinned (OpenSpec.upto commandFieldsSpec)

/-- 'custodylaw28.CommandNames', WHERE WHAT IT READS IS OF BULK AT MOST 1048576: true; the input reads as it did. -/
def commandNamesUptoRow : OpenClaim := { program := "ytcegicmamdabfaadoor", sum := "f381d5633780dc2e2a3fa85a549351d74df1c0d82794d2157dfac0794dcb3095", func := "custody/custodylaw28.CommandNames", spec := "commandNames", unfollowed := true, recurses := true, named := ["custody/command.rows", "custody/hash.constants", "custody/custodyref02.constants"], apart := false, laid := [("custody/custodyref02.constants", laid_custody_custodyref02_constants), ("custody/hash.constants", laid_custody_hash_constants), ("custody/command.rows", laid_custody_command_rows)], narrowed := true }
def CommandNamesUptoSaid : Prop := commandNamesUptoRow.holds Tryd.pinned (OpenSpec.upto commandNamesSpec)

end Rows
end Go.Proofs.YtcegicmamdabfaaDoor
