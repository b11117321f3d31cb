/- The law RotateAllMatchesSpec of the program: for every input it returns true and leaves its arguments as they were, the listed package-level tables being laid as the program's text lays them. -/
import Derived.Test.YtigghpdomoedhaaDoorVal0
import Derived.Test.YtigghpdomoedhaaDoorCards
import Derived.Test.YtigghpdomoedhaaDoorTie
import Derived.WalkKit
import Derived.ProofKit
import Derived.OpenShut
import Derived.Deep.DeepHandedRow
import Derived.Lib.LaidTab
import Derived.Stop.LaidErr
set_option linter.unusedSimpArgs false
set_option linter.unusedVariables false
set_option linter.unusedSectionVars false
namespace Go.Proofs.YtigghpdomoedhaaDoor.rotateAllMatchesSpec
open Go.Abs Go.ChangeShapes Go.WideShapes Go.ChangeAt Go.RowKit
set_option maxRecDepth 100000
theorem own : ownKnob Tryd.prog.godebug = none := by kernel_rfl
theorem laidOut : laidOutB Tryd.prog = true := by kernel_rfl
theorem tab0 {W : World} (h : laidMetH Tryd.prog Rows.rotateAllMatchesSpecRow.laid W) : z1d Go.Abs.V0.K0.toCon (z88 W) W (Go.Abs.V0.gT 1) 1 0 := by
  have h0 : laidMet Tryd.prog Rows.rotateAllMatchesSpecRow.laid W := h
  have ht : Lib.TabIs Tryd.prog W "custody/custodyref02.constants" .u32 [1116352408, 1899447441, 3049323471, 3921009573, 961987163, 1508970993, 2453635748, 2870763221, 3624381080, 310598401, 607225278, 1426881987, 1925078388, 2162078206, 2614888103, 3248222580, 3835390401, 4022224774, 264347078, 604807628, 770255983, 1249150122, 1555081692, 1996064986, 2554220882, 2821834349, 2952996808, 3210313671, 3336571891, 3584528711, 113926993, 338241895, 666307205, 773529912, 1294757372, 1396182291, 1695183700, 1986661051, 2177026350, 2456956037, 2730485921, 2820302411, 3259730800, 3345764771, 3516065817, 3600352804, 4094571909, 275423344, 430227734, 506948616, 659060556, 883997877, 958139571, 1322822218, 1537002063, 1747873779, 1955562222, 2024104815, 2227730452, 2361852424, 2428436474, 2756734187, 3204031479, 3329325298] := Lib.tabIs_of_head (n := 64) (t := 136) (e := 124) (show Tryd.prog.globalNamed "custody/custodyref02.constants" = some 1 by kernel_rfl) (by kernel_rfl) Tryd.underlying136 Tryd.underlying124 (by kernel_rfl) (by kernel_rfl) h0
  exact z7Sa (K := Go.Abs.V0.K0) ht (show Tryd.prog.globalNamed "custody/custodyref02.constants" = some 1 by kernel_rfl) rfl
theorem tab1 {W : World} (h : laidMetH Tryd.prog Rows.rotateAllMatchesSpecRow.laid W) : z1d Go.Abs.V0.K0.toCon (z88 W) W (Go.Abs.V0.gT 0) 2 0 := by
  have h0 : laidMet Tryd.prog Rows.rotateAllMatchesSpecRow.laid W := h
  have h1 := laidMet.tail h0
  have ht : Lib.TabIs Tryd.prog W "custody/hash.constants" .u32 [1116352408, 1899447441, 3049323471, 3921009573, 961987163, 1508970993, 2453635748, 2870763221, 3624381080, 310598401, 607225278, 1426881987, 1925078388, 2162078206, 2614888103, 3248222580, 3835390401, 4022224774, 264347078, 604807628, 770255983, 1249150122, 1555081692, 1996064986, 2554220882, 2821834349, 2952996808, 3210313671, 3336571891, 3584528711, 113926993, 338241895, 666307205, 773529912, 1294757372, 1396182291, 1695183700, 1986661051, 2177026350, 2456956037, 2730485921, 2820302411, 3259730800, 3345764771, 3516065817, 3600352804, 4094571909, 275423344, 430227734, 506948616, 659060556, 883997877, 958139571, 1322822218, 1537002063, 1747873779, 1955562222, 2024104815, 2227730452, 2361852424, 2428436474, 2756734187, 3204031479, 3329325298] := Lib.tabIs_of_head (n := 64) (t := 136) (e := 124) (show Tryd.prog.globalNamed "custody/hash.constants" = some 2 by kernel_rfl) (by kernel_rfl) Tryd.underlying136 Tryd.underlying124 (by kernel_rfl) (by kernel_rfl) h1
  exact z7Sa (K := Go.Abs.V0.K0) ht (show Tryd.prog.globalNamed "custody/hash.constants" = some 2 by kernel_rfl) rfl
theorem tab2 {W : World} (h : laidMetH Tryd.prog Rows.rotateAllMatchesSpecRow.laid W) : z1d Go.Abs.V0.K0.toCon (z88 W) W (Go.Abs.V0.gT 5) 0 0 := by
  have h0 : laidMet Tryd.prog Rows.rotateAllMatchesSpecRow.laid W := h
  have h1 := laidMet.tail h0
  have h2 := laidMet.tail h1
  exact z79a (K := Go.Abs.V0.K0) (W' := W) (vs := [.int .i64 1, .int .i64 128, .int .i64 512, .int .i64 2, .int .i64 128, .int .i64 0, .int .i64 3, .int .i64 128, .int .i64 512, .int .i64 4, .int .i64 128, .int .i64 0, .int .i64 5, .int .i64 256, .int .i64 0]) (p := []) (fuel := 8) (t := 114) (.arr 5 (.st [.int .i64, .int .i64, .int .i64])) h2 (show Tryd.prog.globalNamed "custody/perm.byRule" = some 0 by kernel_rfl) (by kernel_rfl) laidOut (by kernel_rfl) (of_decide_eq_true (by kernel_rfl)) rfl (by kernel_rfl) (by kernel_rfl)
theorem contract (H : Type) (enc : TypeId × Value → H) (W : World) (base : Nat) (args : Array Value) (ds gs : List (DataW H)) (before : List MemPlace)
    (hval : ∀ (j : Nat) t v, Tryd.f5.params[j]? = some t → args[j]? = some v → Value.okWide Tryd.prog W .any base t v)
    (hW : DataW.Whole enc Tryd.prog Tryd.f5.params.toList Rows.rotateAllMatchesSpecSpec.vars false W args.toList ds gs before) (hL : laidMetH Tryd.prog Rows.rotateAllMatchesSpecRow.laid W) :
    Calls Tryd.prog 5 args W fun e W' => ∃ v, e = .returned v ∧ Rows.rotateAllMatchesSpecSpec.post enc Tryd.prog Tryd.f5 false true false false W args v W' := by
  refine z1pb (K := Go.Abs.V0.K0) (f := 284) (fn := Tryd.f5) (gts := [.st [.str, .sl (.st [.str, .int .i64, .int .i64]), .sl (.st [.int .i64, .int .i64, .int .i64]), .sl (.st [.int .i64, .int .i64, .int .i64, .int .i64, .int .i64])], .st [.int .i64, .sl (.st [.int .i64, .int .i64, .str, .int .i64, .int .i64, .int .i64, .int .i64, .int .i64, .bool])], .arr 2 (.int .i64), .sl (.int .i64)]) (tb := 4) (base := base) (B := z20) Go.Abs.V0.v_n284 laidOut z1Ya (by kernel_rfl) (by kernel_rfl) rfl Tryd.underlying4 rfl (fun ds hds => ?_) (fun m hm => ?_) (fun xs h hw => z6bb xs h) (fun _ _ => rfl) hval hW
  · match ds, hds with
    | [d0, d1, d2, d3], _ => rfl
  · simp only [Go.Abs.V0.K0] at hm
    simp only [List.mem_cons, List.not_mem_nil, or_false] at hm
    rcases hm with rfl | rfl | rfl
    · exact tab1 hL
    · exact tab0 hL
    · exact tab2 hL
noncomputable def laidHeap (os : Os) : Array Obj :=
  ((((World.holding Tryd.prog os ⟨#[], #[], []⟩).heap).modify 1 (fun q => match q with
      | .cells _ t frozen => .cells #[.int .u32 1116352408, .int .u32 1899447441, .int .u32 3049323471, .int .u32 3921009573, .int .u32 961987163, .int .u32 1508970993, .int .u32 2453635748, .int .u32 2870763221, .int .u32 3624381080, .int .u32 310598401, .int .u32 607225278, .int .u32 1426881987, .int .u32 1925078388, .int .u32 2162078206, .int .u32 2614888103, .int .u32 3248222580, .int .u32 3835390401, .int .u32 4022224774, .int .u32 264347078, .int .u32 604807628, .int .u32 770255983, .int .u32 1249150122, .int .u32 1555081692, .int .u32 1996064986, .int .u32 2554220882, .int .u32 2821834349, .int .u32 2952996808, .int .u32 3210313671, .int .u32 3336571891, .int .u32 3584528711, .int .u32 113926993, .int .u32 338241895, .int .u32 666307205, .int .u32 773529912, .int .u32 1294757372, .int .u32 1396182291, .int .u32 1695183700, .int .u32 1986661051, .int .u32 2177026350, .int .u32 2456956037, .int .u32 2730485921, .int .u32 2820302411, .int .u32 3259730800, .int .u32 3345764771, .int .u32 3516065817, .int .u32 3600352804, .int .u32 4094571909, .int .u32 275423344, .int .u32 430227734, .int .u32 506948616, .int .u32 659060556, .int .u32 883997877, .int .u32 958139571, .int .u32 1322822218, .int .u32 1537002063, .int .u32 1747873779, .int .u32 1955562222, .int .u32 2024104815, .int .u32 2227730452, .int .u32 2361852424, .int .u32 2428436474, .int .u32 2756734187, .int .u32 3204031479, .int .u32 3329325298] t frozen
      | o => o)).modify 2 (fun q => match q with
      | .cells _ t frozen => .cells #[.int .u32 1116352408, .int .u32 1899447441, .int .u32 3049323471, .int .u32 3921009573, .int .u32 961987163, .int .u32 1508970993, .int .u32 2453635748, .int .u32 2870763221, .int .u32 3624381080, .int .u32 310598401, .int .u32 607225278, .int .u32 1426881987, .int .u32 1925078388, .int .u32 2162078206, .int .u32 2614888103, .int .u32 3248222580, .int .u32 3835390401, .int .u32 4022224774, .int .u32 264347078, .int .u32 604807628, .int .u32 770255983, .int .u32 1249150122, .int .u32 1555081692, .int .u32 1996064986, .int .u32 2554220882, .int .u32 2821834349, .int .u32 2952996808, .int .u32 3210313671, .int .u32 3336571891, .int .u32 3584528711, .int .u32 113926993, .int .u32 338241895, .int .u32 666307205, .int .u32 773529912, .int .u32 1294757372, .int .u32 1396182291, .int .u32 1695183700, .int .u32 1986661051, .int .u32 2177026350, .int .u32 2456956037, .int .u32 2730485921, .int .u32 2820302411, .int .u32 3259730800, .int .u32 3345764771, .int .u32 3516065817, .int .u32 3600352804, .int .u32 4094571909, .int .u32 275423344, .int .u32 430227734, .int .u32 506948616, .int .u32 659060556, .int .u32 883997877, .int .u32 958139571, .int .u32 1322822218, .int .u32 1537002063, .int .u32 1747873779, .int .u32 1955562222, .int .u32 2024104815, .int .u32 2227730452, .int .u32 2361852424, .int .u32 2428436474, .int .u32 2756734187, .int .u32 3204031479, .int .u32 3329325298] t frozen
      | o => o)).modify 0 (fun q => match q with
      | .cells _ t frozen => .cells #[.int .i64 1, .int .i64 128, .int .i64 512, .int .i64 2, .int .i64 128, .int .i64 0, .int .i64 3, .int .i64 128, .int .i64 512, .int .i64 4, .int .i64 128, .int .i64 0, .int .i64 5, .int .i64 256, .int .i64 0] t frozen
      | o => o)
noncomputable def laidWorld (os : Os) : World := { World.holding Tryd.prog os ⟨#[], #[], []⟩ with heap := laidHeap os }
theorem laid_met (os : Os) : laidMet Tryd.prog Rows.rotateAllMatchesSpecRow.laid ((laidWorld os).forCall (fun _ _ => 0) ⟨#[], #[(.agg #[.string ByteArray.empty, .slice none 0 0, .slice none 0 0, .slice none 0 0] : Value), (.agg #[.int .i64 0, .slice none 0 0] : Value), (.agg #[.int .i64 0, .int .i64 0] : Value), (.slice none 0 0 : Value)], []⟩).memory :=
  laidMet_of_run' 8 (by kernel_rfl) (by kernel_rfl)
theorem reads (os : Os) {H : Type} (enc : TypeId × Value → H) : ∃ places, DataW.whole enc Tryd.prog ((laidWorld os).forCall (fun _ _ => 0) ⟨#[], #[(.agg #[.string ByteArray.empty, .slice none 0 0, .slice none 0 0, .slice none 0 0] : Value), (.agg #[.int .i64 0, .slice none 0 0] : Value), (.agg #[.int .i64 0, .int .i64 0] : Value), (.slice none 0 0 : Value)], []⟩).memory Tryd.f5.params.toList Rows.rotateAllMatchesSpecSpec.vars false (#[(.agg #[.string ByteArray.empty, .slice none 0 0, .slice none 0 0, .slice none 0 0] : Value), (.agg #[.int .i64 0, .slice none 0 0] : Value), (.agg #[.int .i64 0, .int .i64 0] : Value), (.slice none 0 0 : Value)] : Array Value).toList 8 = some ([.agg [.lit (.string []), .nil, .nil, .nil], .agg [.lit (.int .i64 0), .nil], .agg [.lit (.int .i64 0), .lit (.int .i64 0)], .nil], [], places) :=
  ⟨[], by kernel_rfl⟩
theorem lifted (os : Os) (started : os.Started) (H : Type) (enc : TypeId × Value → H) (F : Stop.Interp) :
    ReturnsInHanded {} Tryd.checked os 5 .any ((OpenSpec.ofChange Rows.rotateAllMatchesSpecSpec).preRow enc Tryd.prog Tryd.f5 Rows.rotateAllMatchesSpecRow.domain false Rows.rotateAllMatchesSpecRow.laid) (((OpenSpec.ofChange Rows.rotateAllMatchesSpecSpec).at F).post enc Tryd.prog Tryd.f5 false true false false) := by
  obtain ⟨places, hx⟩ := reads os enc
  refine returnsInHanded_of_row (C := Tryd.checked) (s := OpenSpec.ofChange Rows.rotateAllMatchesSpecSpec) own started (by kernel_rfl) Tryd.func5
    (witness_row_at (enc := enc) (C := Tryd.checked) false (laidWorld os) #[(.agg #[.string ByteArray.empty, .slice none 0 0, .slice none 0 0, .slice none 0 0] : Value), (.agg #[.int .i64 0, .slice none 0 0] : Value), (.agg #[.int .i64 0, .int .i64 0] : Value), (.slice none 0 0 : Value)] rfl (by kernel_rfl) (by kernel_rfl) (by kernel_rfl)
      (OpenSpec.preRow_of_cond 8 hx (by kernel_rfl) (fun k hk => by cases hk) (by kernel_rfl) (laid_met os))) ?_
  intro W base args ds gs before hval hW _ hcond _ hL _ _
  exact contract H enc W base args ds gs before hval hW hL
theorem said : Rows.RotateAllMatchesSpecSaid :=
  OpenClaim.holds_of_cond 5 Tryd.f5 rfl rfl rfl rfl rfl rfl rfl ⟨rfl, rfl, rfl, rfl, rfl⟩ rfl rfl rfl rfl rfl (by kernel_rfl) Tryd.func5 (by kernel_rfl)
    (of_decide_eq_true (by kernel_rfl)) (by unfold Func.isWrapper; first | (rw [if_pos (by decide +kernel)]; kernel_rfl) | (rw [if_neg (by decide +kernel)]; exact ⟨rfl, rfl⟩))
    (fun os started H enc _ F => by rw [OpenClaim.pre_eq_preRow]; exact lifted os started H enc F)
theorem plain (f : FuncId) (fn : Func) (hf : Tryd.pinned.checked.prog.funcNamed "custody/custodylaw35.RotateAllMatchesSpec" = some f) (hfn : Tryd.pinned.checked.prog.funcs[f]? = some fn) :
    false = Tryd.pinned.checked.prog.looks [] ∧ ∀ (j : Nat) t, fn.params[j]? = some t → Tryd.pinned.checked.prog.wantsStandIn t = false := by
  obtain rfl : f = 5 := (Option.some.inj ((show Tryd.prog.funcNamed "custody/custodylaw35.RotateAllMatchesSpec" = some 5 by kernel_rfl).symm.trans hf)).symm
  obtain rfl : fn = Tryd.f5 := (Option.some.inj (Tryd.func5.symm.trans hfn)).symm
  refine ⟨by kernel_rfl, fun j t ht => ?_⟩
  have hm : t ∈ Tryd.f5.params := Array.mem_of_getElem? ht
  rw [Tryd.params5] at hm
  simp only [List.mem_toArray, List.mem_cons, List.not_mem_nil, or_false] at hm
  rcases hm with rfl | rfl | rfl | rfl
  · exact (show Tryd.prog.wantsStandIn 26 = false by kernel_rfl)
  · exact (show Tryd.prog.wantsStandIn 29 = false by kernel_rfl)
  · exact (show Tryd.prog.wantsStandIn 30 = false by kernel_rfl)
  · exact (show Tryd.prog.wantsStandIn 39 = false by kernel_rfl)
theorem card : Rows.RotateAllMatchesSpecCardSaid :=
  Claim7.holds_tied_plain_at .later [] _ _ _ _ said (fun _ h => by cases h) (by kernel_rfl) (fun _ h => by cases h) rotateAllMatchesSpec_row_tie rfl ⟨rfl, rfl⟩ (by kernel_rfl) rfl plain (by kernel_rfl)
end Go.Proofs.YtigghpdomoedhaaDoor.rotateAllMatchesSpec
