/- The law LogBinds of the program: for every input of bulk at most 1048576 it returns true and leaves its arguments as they were, the listed package-level tables being laid as the program's text lays them. -/
import Derived.Test.YtiehmnjjlbndlaaGreatDoorValZ0
import Derived.Test.YtiehmnjjlbndlaaGreatDoorCards
import Derived.Test.YtiehmnjjlbndlaaGreatDoorTie
import Derived.WalkKit
import Derived.ProofKit
import Derived.OpenShut
import Derived.Deep.DeepHandedRow
import Derived.Lib.LaidTab
import Derived.Stop.LaidErr
set_option linter.all false
namespace Go.Proofs.YtiehmnjjlbndlaaGreatDoor.logBindsU
open Go.Abs Go.ChangeShapes Go.WideShapes Go.ChangeAt Go.RowKit
set_option maxRecDepth 100000
theorem own : ownKnob Tryz.prog.godebug = none := by kernel_rfl
theorem laidOut : laidOutB Tryz.prog = true := by kernel_rfl
theorem bulkAll {H : Type} (l : List (DataW H)) : Rows.uptoBulkAll l = (l.map Rows.uptoBulk).sum := by
  induction l with
  | nil => simp [Rows.uptoBulkAll]
  | cons x r ih => simp only [Rows.uptoBulkAll, List.map_cons, List.sum_cons, ih]
theorem bulk {H : Type} : nn (Rows.uptoBulk (H := H)) := by
  refine ⟨fun l => ?_, fun l => ?_, ?_, fun es sp => ?_, fun ps => ?_⟩
  · cases l <;> simp [Rows.uptoBulk]
  · simp [Rows.uptoBulk]
  · simp [Rows.uptoBulk]
  · simp only [Rows.uptoBulk, bulkAll]; omega
  · simp only [Rows.uptoBulk, bulkAll]; omega
def zs0 : List Int := [1116352408, 1899447441, 3049323471, 3921009573, 961987163, 1508970993, 2453635748, 2870763221, 3624381080, 310598401, 607225278, 1426881987, 1925078388, 2162078206, 2614888103, 3248222580, 3835390401, 4022224774, 264347078, 604807628, 770255983, 1249150122, 1555081692, 1996064986, 2554220882, 2821834349, 2952996808, 3210313671, 3336571891, 3584528711, 113926993, 338241895, 666307205, 773529912, 1294757372, 1396182291, 1695183700, 1986661051, 2177026350, 2456956037, 2730485921, 2820302411, 3259730800, 3345764771, 3516065817, 3600352804, 4094571909, 275423344, 430227734, 506948616, 659060556, 883997877, 958139571, 1322822218, 1537002063, 1747873779, 1955562222, 2024104815, 2227730452, 2361852424, 2428436474, 2756734187, 3204031479, 3329325298]
def zs1 : List Int := [0, 1, 28, 2, 29, 14, 24, 3, 30, 22, 20, 15, 25, 17, 4, 8, 31, 27, 13, 23, 21, 19, 16, 7, 26, 12, 18, 6, 11, 5, 10, 9]
def zs2 : List Int := [0, 1, 56, 2, 57, 49, 28, 3, 61, 58, 42, 50, 38, 29, 17, 4, 62, 47, 59, 36, 45, 43, 51, 22, 53, 39, 33, 30, 24, 18, 12, 5, 63, 55, 48, 27, 60, 41, 37, 16, 46, 35, 44, 21, 52, 32, 23, 11, 54, 26, 40, 15, 34, 20, 31, 10, 25, 14, 19, 9, 13, 8, 7, 6]
theorem tab0 {W : World} (h : laidMetH Tryz.prog Rows.logBindsUptoRow.laid W) : am Go.Abs.V0.K0.toCon (cg W) W (Go.Abs.V0.gT 1) 0 0 := by
  have h0 : laidMet Tryz.prog Rows.logBindsUptoRow.laid W := h
  have ht : Lib.TabIs Tryz.prog W "custody/custodyref02.constants" .u32 zs0 := Lib.tabIs_of_head (n := 64) (t := 192) (e := 181) (show Tryz.prog.globalNamed "custody/custodyref02.constants" = some 0 by kernel_rfl) (by kernel_rfl) Tryz.underlying192 Tryz.underlying181 (by kernel_rfl) (by kernel_rfl) h0
  exact IP (K := Go.Abs.V0.K0) ht (show Tryz.prog.globalNamed "custody/custodyref02.constants" = some 0 by kernel_rfl) rfl
theorem tab1 {W : World} (h : laidMetH Tryz.prog Rows.logBindsUptoRow.laid W) : am Go.Abs.V0.K0.toCon (cg W) W (Go.Abs.V0.gT 4) 1 0 := by
  have h0 : laidMet Tryz.prog Rows.logBindsUptoRow.laid W := h
  have h1 := laidMet.tail h0
  have ht : Lib.TabIs Tryz.prog W "math/bits.deBruijn32tab" .u8 zs1 := Lib.tabIs_of_head (n := 32) (t := 167) (e := 5) (show Tryz.prog.globalNamed "math/bits.deBruijn32tab" = some 1 by kernel_rfl) (by kernel_rfl) Tryz.underlying167 Tryz.underlying5 (by kernel_rfl) (by kernel_rfl) h1
  exact IP (K := Go.Abs.V0.K0) ht (show Tryz.prog.globalNamed "math/bits.deBruijn32tab" = some 1 by kernel_rfl) rfl
theorem tab2 {W : World} (h : laidMetH Tryz.prog Rows.logBindsUptoRow.laid W) : am Go.Abs.V0.K0.toCon (cg W) W (Go.Abs.V0.gT 3) 2 0 := by
  have h0 : laidMet Tryz.prog Rows.logBindsUptoRow.laid W := h
  have h1 := laidMet.tail h0
  have h2 := laidMet.tail h1
  have ht : Lib.TabIs Tryz.prog W "math/bits.deBruijn64tab" .u8 zs2 := Lib.tabIs_of_head (n := 64) (t := 184) (e := 5) (show Tryz.prog.globalNamed "math/bits.deBruijn64tab" = some 2 by kernel_rfl) (by kernel_rfl) Tryz.underlying184 Tryz.underlying5 (by kernel_rfl) (by kernel_rfl) h2
  exact IP (K := Go.Abs.V0.K0) ht (show Tryz.prog.globalNamed "math/bits.deBruijn64tab" = some 2 by kernel_rfl) rfl
theorem tab3 {W : World} (h : laidMetH Tryz.prog Rows.logBindsUptoRow.laid W) : am Go.Abs.V0.K0.toCon (cg W) W (Go.Abs.V0.gT 0) 3 0 := by
  have h0 : laidMet Tryz.prog Rows.logBindsUptoRow.laid W := h
  have h1 := laidMet.tail h0
  have h2 := laidMet.tail h1
  have h3 := laidMet.tail h2
  have ht : Lib.TabIs Tryz.prog W "custody/hash.constants" .u32 zs0 := Lib.tabIs_of_head (n := 64) (t := 192) (e := 181) (show Tryz.prog.globalNamed "custody/hash.constants" = some 3 by kernel_rfl) (by kernel_rfl) Tryz.underlying192 Tryz.underlying181 (by kernel_rfl) (by kernel_rfl) h3
  exact IP (K := Go.Abs.V0.K0) ht (show Tryz.prog.globalNamed "custody/hash.constants" = some 3 by kernel_rfl) rfl
theorem contract (H : Type) (enc : TypeId × Value → H) (W : World) (base : Nat) (args : Array Value) (ds gs : List (DataW H)) (before : List MemPlace)
    (hval : ∀ (j : Nat) t v, Tryz.f3.params[j]? = some t → args[j]? = some v → Value.okWide Tryz.prog W .any base t v)
    (hW : DataW.Whole enc Tryz.prog Tryz.f3.params.toList Rows.logBindsSpec.vars false W args.toList ds gs before) (hL : laidMetH Tryz.prog Rows.logBindsUptoRow.laid W) (hk : Rows.uptoSmall H (ds ++ gs) = true) :
    Calls Tryz.prog 3 args W fun e W' => ∃ v, e = .returned v ∧ Rows.logBindsSpec.post enc Tryz.prog Tryz.f3 false true false false W args v W' := by
  have hgs : gs = [] := by
    obtain ⟨_, _, _, hV, _⟩ := hW
    cases gs with
    | nil => rfl
    | cons _ _ => exact hV.elim
  have hb : (ds.map Rows.uptoBulk).sum ≤ 1048576 := by
    rw [← bulkAll]
    have := of_decide_eq_true hk
    rwa [hgs, List.append_nil] at this
  refine z1c (K := Go.Abs.V0.K0) (f := 400) (fn := Tryz.f3) (gts := [.st [.st [.int .i64, .sl (.arr 16 (.int .u8))], .sl (.st [.int .i64, .int .i64, .int .i64, .int .i64, .st [.int .i64, .int .i64, .int .i64, .int .i64, .int .i64, .int .i64, .str, .sl (.int .i64)], .arr 16 (.int .u8), .sl (.st [.int .i64, .int .i64, .int .i64, .int .i64, .int .i64, .int .i64, .int .i64, .bool, .arr 16 (.int .u8)]), .sl (.int .i64)])], .st [.int .i64, .sl (.st [.int .i64, .int .i64, .int .i64, .int .i64, .st [.int .i64, .int .i64, .int .i64, .int .i64, .int .i64, .int .i64, .str, .sl (.int .i64)], .arr 16 (.int .u8), .sl (.st [.int .i64, .int .i64, .int .i64, .int .i64, .int .i64, .int .i64, .int .i64, .bool, .arr 16 (.int .u8)]), .sl (.int .i64)]), .sl (.sl (.arr 16 (.int .u8)))]]) (tb := 4) (base := base) (B := Rows.uptoBulk) Go.Abs.V0.v_400 laidOut bulk (by kernel_rfl) (by kernel_rfl) rfl Tryz.underlying4 rfl (fun ds hds => ?_) (fun m hm => ?_) (fun xs h hw => V2 xs h (Nat.le_trans hw hb)) (fun _ _ => rfl) hval hW
  · match ds, hds with
    | [d0, d1], _ => rfl
  · simp only [Go.Abs.V0.K0] at hm
    simp only [List.mem_cons, List.not_mem_nil, or_false] at hm
    rcases hm with rfl | rfl | rfl | rfl
    · exact tab3 hL
    · exact tab0 hL
    · exact tab2 hL
    · exact tab1 hL
noncomputable def laidHeap (os : Os) : Array Obj :=
  (((((World.holding Tryz.prog os ⟨#[], #[], []⟩).heap).modify 0 (fun q => match q with
      | .cells _ t frozen => .cells (zs0.map fun z => Value.int .u32 z).toArray t frozen
      | o => o)).modify 1 (fun q => match q with
      | .cells _ t frozen => .cells (zs1.map fun z => Value.int .u8 z).toArray t frozen
      | o => o)).modify 2 (fun q => match q with
      | .cells _ t frozen => .cells (zs2.map fun z => Value.int .u8 z).toArray t frozen
      | o => o)).modify 3 (fun q => match q with
      | .cells _ t frozen => .cells (zs0.map fun z => Value.int .u32 z).toArray t frozen
      | o => o)
noncomputable def laidWorld (os : Os) : World := { World.holding Tryz.prog os ⟨#[], #[], []⟩ with heap := laidHeap os }
theorem laid_met (os : Os) : laidMet Tryz.prog Rows.logBindsUptoRow.laid ((laidWorld os).forCall (fun _ _ => 0) ⟨#[], #[(.agg #[.int .i64 0, .slice none 0 0, .slice none 0 0] : Value), (.agg #[.int .i64 0, .slice none 0 0, .slice none 0 0] : Value)], []⟩).memory :=
  laidMet_of_run' 8 (by kernel_rfl) (by kernel_rfl)
theorem reads (os : Os) {H : Type} (enc : TypeId × Value → H) : ∃ places, DataW.whole enc Tryz.prog ((laidWorld os).forCall (fun _ _ => 0) ⟨#[], #[(.agg #[.int .i64 0, .slice none 0 0, .slice none 0 0] : Value), (.agg #[.int .i64 0, .slice none 0 0, .slice none 0 0] : Value)], []⟩).memory Tryz.f3.params.toList Rows.logBindsSpec.vars false (#[(.agg #[.int .i64 0, .slice none 0 0, .slice none 0 0] : Value), (.agg #[.int .i64 0, .slice none 0 0, .slice none 0 0] : Value)] : Array Value).toList 8 = some ([.agg [.agg [.lit (.int .i64 0), .nil], .nil], .agg [.lit (.int .i64 0), .nil, .nil]], [], places) :=
  ⟨[], by kernel_rfl⟩
theorem lifted (os : Os) (started : os.Started) (H : Type) (enc : TypeId × Value → H) (F : Stop.Interp) :
    ReturnsInHanded {} Tryz.checked os 3 .any ((Rows.OpenSpec.upto Rows.logBindsSpec).preRow enc Tryz.prog Tryz.f3 Rows.logBindsUptoRow.domain false Rows.logBindsUptoRow.laid) (((Rows.OpenSpec.upto Rows.logBindsSpec).at F).post enc Tryz.prog Tryz.f3 false true false false) := by
  obtain ⟨places, hx⟩ := reads os enc
  refine returnsInHanded_of_row (C := Tryz.checked) (s := Rows.OpenSpec.upto Rows.logBindsSpec) own started (by kernel_rfl) Tryz.func3
    (witness_row_at (enc := enc) (C := Tryz.checked) false (laidWorld os) #[(.agg #[.int .i64 0, .slice none 0 0, .slice none 0 0] : Value), (.agg #[.int .i64 0, .slice none 0 0, .slice none 0 0] : Value)] rfl (by kernel_rfl) (by kernel_rfl) (by kernel_rfl)
      (OpenSpec.preRow_of_cond 8 hx (by kernel_rfl) (fun k hk => by cases hk; kernel_rfl) (by kernel_rfl) (laid_met os))) ?_
  intro W base args ds gs before hval hW _ hcond _ hL _ _
  exact contract H enc W base args ds gs before hval hW hL (hcond _ rfl)
theorem said : Rows.LogBindsUptoSaid :=
  OpenClaim.holds_of_cond 3 Tryz.f3 rfl rfl rfl rfl rfl rfl rfl ⟨rfl, rfl, rfl, rfl, rfl⟩ rfl rfl rfl rfl rfl (by kernel_rfl) Tryz.func3 (by kernel_rfl)
    (of_decide_eq_true (by kernel_rfl)) (by unfold Func.isWrapper; first | (rw [if_pos (by decide +kernel)]; kernel_rfl) | (rw [if_neg (by decide +kernel)]; exact ⟨rfl, rfl⟩))
    (fun os started H enc _ F => by rw [OpenClaim.pre_eq_preRow]; exact lifted os started H enc F)
theorem plain (f : FuncId) (fn : Func) (hf : Tryz.pinned.checked.prog.funcNamed "custody/custodylaw40.LogBinds" = some f) (hfn : Tryz.pinned.checked.prog.funcs[f]? = some fn) :
    false = Tryz.pinned.checked.prog.looks [] ∧ ∀ (j : Nat) t, fn.params[j]? = some t → Tryz.pinned.checked.prog.wantsStandIn t = false := by
  obtain rfl : f = 3 := (Option.some.inj ((show Tryz.prog.funcNamed "custody/custodylaw40.LogBinds" = some 3 by kernel_rfl).symm.trans hf)).symm
  obtain rfl : fn = Tryz.f3 := (Option.some.inj (Tryz.func3.symm.trans hfn)).symm
  refine ⟨by kernel_rfl, fun j t ht => ?_⟩
  have hm : t ∈ Tryz.f3.params := Array.mem_of_getElem? ht
  rw [Tryz.params3] at hm
  simp only [List.mem_toArray, List.mem_cons, List.not_mem_nil, or_false] at hm
  rcases hm with rfl | rfl
  · exact (show Tryz.prog.wantsStandIn 27 = false by kernel_rfl)
  · exact (show Tryz.prog.wantsStandIn 30 = false by kernel_rfl)
theorem card : Rows.LogBindsUptoCardSaid :=
  Claim7.holds_tied_plain_at .later [] _ _ _ _ said (fun _ h => by cases h) (by kernel_rfl) (fun _ h => by cases h) logBindsUpto_row_tie rfl ⟨rfl, rfl⟩ (by kernel_rfl) rfl plain (by kernel_rfl)
end Go.Proofs.YtiehmnjjlbndlaaGreatDoor.logBindsU
