/- Lemmas: an abstract interpreter, and what the functions compute. -/
import Derived.Shelf.Strings.BuilderK
import Derived.Test.YtikmfgbgionjhaaDoorC
import Derived.Test.YtikmfgbgionjhaaDoorProg
set_option linter.unusedSimpArgs false
set_option linter.unusedVariables false
set_option linter.unusedSectionVars false
section
set_option linter.unusedVariables false
namespace Go.Abs
open Go.Shelf Go.RowKit Go.Proofs
variable {P : Program}
theorem bufOf_at {w : World} {T e : TypeId} {b : Nat} {p : Value} {bs : List Value} (h : Lib.BuilderAt T e 0 b p bs w) {v : Value} (hv : w.cell? ⟨b, 1, none⟩ = some v) : bufOf w b = v.ownBlock := bufOf_own hv
theorem at_lt {w : World} {T e : TypeId} {B b : Nat} {p : Value} {bs : List Value} (h : Lib.BuilderAt T e B b p bs w) : b < w.heap.size := by
  obtain ⟨_, v, hbk, _⟩ := h
  exact (Array.getElem?_eq_some_iff.1 hbk).1
/-- The steps of a write: the check; the append; the store. -/
theorem grown_write {w w1 w2 : World} {T e : TypeId} {b : Nat} {p v v' : Value} {bs bs' : List Value} {n : Nat} (hw : Lib.IsBuilder T e 0 b bs w) (h1 : w1 = w ∨ w1 = w.setCell ⟨b, 0, none⟩ p) (hb1 : w1.cell? ⟨b, 1, none⟩ = some v) (hg : w1.grownBy w2 v.ownBlock)
    (ho : w2.ownsRow 0 e 1 v' n bs') (hnew : v'.ownBlock = v.ownBlock ∨ ((∀ k, v'.ownBlock = some k → w1.heap.size ≤ k) ∧ ∀ k, k < w1.heap.size → w2.heap[k]? = w1.heap[k]?)) (hc : ∃ u, w2.cell? ⟨b, 1, none⟩ = some u) : GrownO w (w2.setCell ⟨b, 1, none⟩ v') b := by
  have hz : w1.heap.size = w.heap.size := by rcases h1 with rfl | rfl <;> simp
  have hbuf : bufOf w b = v.ownBlock := by
    rcases h1 with rfl | rfl
    · exact bufOf_own hb1
    · rw [World.cell?_setCell_other _ _ _ _ (by simp)] at hb1
      exact bufOf_own hb1
  have hblk : ∀ k, k ≠ b → w1.heap[k]? = w.heap[k]? := fun k hk => by
    rcases h1 with rfl | rfl
    · rfl
    · exact Below.heap_setCell _ _ _ _ hk
  have ho' : w1.os = w.os ∧ w1.tape = w.tape ∧ w1.output = w.output := by rcases h1 with rfl | rfl <;> exact ⟨rfl, rfl, rfl⟩
  refine ⟨hg.os.trans ho'.1, hg.tape.trans ho'.2.1, hg.output.trans ho'.2.2, ?_, fun k hk hkb hkn => ?_, ?_⟩
  · have := hg.size
    simp; omega
  · rw [Below.heap_setCell _ _ _ _ hkb, hg.block k (by omega) (fun e => hkn (by rw [hbuf, ← e])), hblk k hkb]
  · obtain ⟨u, hu⟩ := hc
    rw [bufOf_own (World.cell?_setCell_same _ _ _ hu), hbuf]
    rcases hnew with h | ⟨h, h'⟩
    · exact .inl h
    · refine .inr ⟨fun k hk => by have := h k hk; omega, fun k hk hkb => ?_⟩
      rw [Below.heap_setCell _ _ _ _ hkb, h' k (by omega), hblk k hkb]

/-- What append hands back lies where the slice lay, or in a new block. -/
theorem app_block {w w' : World} {t1 t2 ty e : TypeId} {i : TypeInfo} {z : Value} {d2 : TypeDesc} (h1 : P.underlying t1 = some (.slice e)) (h2 : P.underlying t2 = some d2) (hd : d2 = .string ∨ ∃ e', d2 = .slice e') (hi : P.info? e = some i) (hz : i.zero = some z) (hsize : i.size = 1) (hby : i.bytes = 1)
    {v v' x : Value} {n m : Nat} {xs news : List Value} (hown : w.ownsRow 0 e 1 v n xs) (hlen : (Builtin.lenOf x).run P w = .ok m w) (hnews : ∀ w1, w1 = w ∨ w1 = w.drew → (Builtin.firstCells 1 m x).run P w1 = .ok news.toArray w1) (hb : n + m ≤ 140737488355328)
    (hr : (Builtin.append_ #[t1, t2] ty #[v, x]).run P w = .ok v' w') : v'.ownBlock = v.ownBlock ∨ ((∀ k, v'.ownBlock = some k → w.heap.size ≤ k) ∧ ∀ k, k < w.heap.size → w'.heap[k]? = w.heap[k]?) := by
  have inv : ∀ {r : Result Unit} {u : Value}, (r.andThen fun _ w' => Result.ok u w') = .ok v' w' → v' = u := fun {r u} h => by
    cases r with
    | ok a b => simp only [Result.andThen, Result.ok.injEq] at h; exact h.1.symm
    | halt a b => simp [Result.andThen] at h
  have key : ∀ (bs : Option Addr) (cap : Nat) (olds : List Value), v = .slice bs n cap → (Builtin.firstCells i.size n (.slice bs n cap)).run P w.drew = .ok olds.toArray w.drew → v'.ownBlock = v.ownBlock ∨ ((∀ k, v'.ownBlock = some k → w.heap.size ≤ k) ∧ ∀ k, k < w.heap.size → w'.heap[k]? = w.heap[k]?) := fun bs cap olds hv holds => by
    subst hv
    by_cases hf : n + m ≤ cap
    · rw [run_app_in w h1 h2 hd hi hlen (by rw [hsize]; exact hnews w (.inl rfl)) hf] at hr
      left
      rw [inv hr]
      cases bs <;> rfl
    · rw [run_app_new w h1 h2 hd hi hz hlen (by rw [hsize]; exact hnews w.drew (.inr rfl)) holds (by omega) (by rw [hby]; omega) (by omega)] at hr
      right
      simp only [Result.ok.injEq] at hr
      rw [← hr.1, ← hr.2]
      refine ⟨fun k hk => ?_, fun k hk => RowKit.Below.heap_alloc w.drew _ k hk⟩
      simp [Value.ownBlock] at hk
      omega
  rcases hown.2 with ⟨hv, hn⟩ | ⟨g, cap, cur, hv, _, hg, _⟩
  · subst hn
    refine key none 0 [] hv ?_
    simp [Builtin.firstCells]
  · refine key (some ⟨g, 0, none⟩) cap xs hv ?_
    rw [hsize]
    have hc := hown.cells (g := g) (by rw [hv]; rfl)
    have hl : xs.length = n * 1 := hown.1
    exact run_firstCells_some w.drew 1 n ⟨g, 0, none⟩ n cap xs hl hc
/-- An append of a string, as the walk takes it: where the result lies is told too. -/
theorem step_app_string {w : World} {ops : Array Oper} {rest : List Oper} {o : Oper} {a : Act} {Q : Exit → Act → World → Prop} (hgd : o.guard = none) (sl x : Operand) (t u : TypeId) (ho : o.op = .call { callee := .builtin .append, args := #[sl, x], argTypes := #[t, u] })
    (e : TypeId) (i : TypeInfo) (ht : P.underlying t = some (.slice e)) (hu : P.underlying u = some .string) (hi : P.info? e = some i) (hz : i.zero = some (.int .u8 0)) (hsize : i.size = 1) (hby : i.bytes = 1)
    (v : Value) (n : Nat) (xs : List Value) (hs : a.eval sl = v) (hown : w.ownsRow 0 e 1 v n xs) (s : ByteArray) (hx : a.eval x = .string s) (hb : n + s.size ≤ 140737488355328)
    (h : ∀ v' w', w'.ownsRow 0 e 1 v' (n + s.size) (xs ++ Lib.strCells s) → w.grownBy w' v.ownBlock → (v'.ownBlock = v.ownBlock ∨ ((∀ k, v'.ownBlock = some k → w.heap.size ≤ k) ∧ ∀ k, k < w.heap.size → w'.heap[k]? = w.heap[k]?)) → wpList P ops Q rest (a.put o.dst v') w') : wpList P ops Q (o :: rest) a w := by
  refine wpList_plain hgd fun K hK => ?_
  obtain ⟨v', w', hr, h2, h3, _⟩ := Lib.run_append_own_string (P := P) w 0 t u o.type e i ht hu hi hz hsize hby v n xs hown s (by unfold maxLen; omega) hb (Nat.zero_le _)
  have hn := app_block (m := s.size) (news := Lib.strCells s) ht hu (.inl rfl) hi hz hsize hby hown (by simp [Builtin.lenOf]) (fun w1 _ => Lib.run_firstCells_string w1 1 s) hb hr
  unfold Oper.wp execOp
  simp only [ho, resolve, invoke, builtin, Sem.run_bind, Sem.run_pure, Result.andThen_ok, List.map_toArray, List.map_cons, List.map_nil, hs, hx, hr]
  exact hK _ _ (h v' w' h2 h3 hn)
/-- .. of a slice. -/
theorem step_app_slice {w : World} {ops : Array Oper} {rest : List Oper} {o : Oper} {a : Act} {Q : Exit → Act → World → Prop} (hgd : o.guard = none) (sl x : Operand) (t : TypeId) (ho : o.op = .call { callee := .builtin .append, args := #[sl, x], argTypes := #[t, t] })
    (e : TypeId) (i : TypeInfo) (ht : P.underlying t = some (.slice e)) (hi : P.info? e = some i) (hz : i.zero = some (.int .u8 0)) (hsize : i.size = 1) (hby : i.bytes = 1)
    (v : Value) (n : Nat) (xs : List Value) (hs : a.eval sl = v) (hown : w.ownsRow 0 e 1 v n xs) (ad : Addr) (m c : Nat) (news : List Value) (hx : a.eval x = .slice (some ad) m c) (hl : news.length = m) (hnews : ∀ j u, news[j]? = some u → w.cell? (ad.add j) = some u) (h1 : ∀ u ∈ news, u.oneCell' = true) (hb : n + m ≤ 140737488355328)
    (h : ∀ v' w', w'.ownsRow 0 e 1 v' (n + m) (xs ++ news) → w.grownBy w' v.ownBlock → (v'.ownBlock = v.ownBlock ∨ ((∀ k, v'.ownBlock = some k → w.heap.size ≤ k) ∧ ∀ k, k < w.heap.size → w'.heap[k]? = w.heap[k]?)) → wpList P ops Q rest (a.put o.dst v') w') : wpList P ops Q (o :: rest) a w := by
  refine wpList_plain hgd fun K hK => ?_
  obtain ⟨v', w', hr, h2, h3, _⟩ := run_append_own (P := P) w 0 t o.type e i (.int .u8 0) 1 1 ht hi hz hsize hby rfl (by decide) v n xs hown ad m c news (by omega) hnews h1 (by unfold maxLen; omega) (by omega) (Nat.zero_le _)
  have hn := app_block (m := m) (news := news) ht ht (.inr ⟨e, rfl⟩) hi hz hsize hby hown (by simp [Builtin.lenOf]) (fun w1 hw1 => run_firstCells_some w1 1 m ad m c news (by omega) (fun j u hj => by rcases hw1 with rfl | rfl <;> exact hnews j u hj)) hb hr
  unfold Oper.wp execOp
  simp only [ho, resolve, invoke, builtin, Sem.run_bind, Sem.run_pure, Result.andThen_ok, List.map_toArray, List.map_cons, List.map_nil, hs, hx, hr]
  exact hK _ _ (h v' w' h2 h3 hn)

theorem bfreeze_other (w : World) (g n k : Nat) (h : k ≠ g) : (w.freeze ⟨g, 0, none⟩ n).heap[k]? = w.heap[k]? := by
  unfold World.freeze
  split
  · rfl
  · simp only [Array.getElem?_modify, if_neg (fun e : g = k => h e.symm)]
theorem bfreeze_same (w : World) (g n : Nat) : (w.freeze ⟨g, 0, none⟩ n).heap.size = w.heap.size ∧ (w.freeze ⟨g, 0, none⟩ n).os = w.os ∧ (w.freeze ⟨g, 0, none⟩ n).tape = w.tape ∧ (w.freeze ⟨g, 0, none⟩ n).output = w.output := by
  unfold World.freeze
  split <;> simp
end Go.Abs
end

section
set_option linter.unusedVariables false
set_option linter.unusedSimpArgs false
namespace Go.Abs.TrydB
open Go.Abs Go.RowKit Go.Proofs
theorem sizeB : (Tryd.prog.info? 67).map (·.size) = some 2 := by kernel_rfl
theorem liesB : liesAt Tryd.prog Tryd.prog.depth 67 (2 / Tryd.prog.cellsOf 67) 0 67 1 = true := by kernel_rfl
theorem infoB : (Tryd.prog.info? 5).map (fun i => (i.zero, i.size, i.bytes)) = some (some (.int .u8 0), 1, 1) := by kernel_rfl
theorem cellsB : Tryd.prog.cellsOf 5 = 1 := by kernel_rfl
theorem mixedB : Tryd.prog.follows .mixedOrders = true := by kernel_rfl
set_option maxHeartbeats 4000000 in
set_option maxRecDepth 100000 in
theorem cc_used (b : Nat) (w : World) (h0 : w.cell? ⟨b, 0, none⟩ = some (.pointer (some ⟨b, 0, none⟩))) :
    Calls Tryd.prog 50 #[.pointer (some ⟨b, 0, none⟩)] w fun e w' => e = .returned (.tuple #[]) ∧ w' = w := by
  obtain ⟨j, hj, _⟩ := Option.map_eq_some_iff.1 sizeB
  have mixed := mixedB
  have t72 := Tryd.underlying67; have a72 := Tryd.isAgg67; have z72 := Tryd.sizeOf67; have v72 := Tryd.zeroValue67; have u72 := run_underlying Tryd.underlying67
  have t70 := Tryd.underlying65; have a70 := Tryd.isAgg65; have z70 := Tryd.sizeOf65; have v70 := Tryd.zeroValue65; have u70 := run_underlying Tryd.underlying65
  have t9 := Tryd.underlying9; have a9 := Tryd.isAgg9; have z9 := Tryd.sizeOf9; have v9 := Tryd.zeroValue9; have u9 := run_underlying Tryd.underlying9
  have t4 := Tryd.underlying4; have a4 := Tryd.isAgg4; have z4 := Tryd.sizeOf4; have v4 := Tryd.zeroValue4; have u4 := run_underlying Tryd.underlying4
  have t164 := Tryd.underlying87; have a164 := Tryd.isAgg87; have z164 := Tryd.sizeOf87; have v164 := Tryd.zeroValue87; have u164 := run_underlying Tryd.underlying87
  go_enter Tryd.func50, Tryd.ntmps50
  go_wp2
  rw [Lib.run_neq_ptr_same w _ Tryd.underlying65 hj]
  go_wp2
  go_end0
  exact ⟨rfl, rfl⟩
set_option maxHeartbeats 4000000 in
set_option maxRecDepth 100000 in
theorem cc_fresh (b : Nat) (w : World) (h0 : w.cell? ⟨b, 0, none⟩ = some (.pointer none)) (hsh : w.shape? b = some (67, 2)) (hfz : w.frozen? ⟨b, 0, none⟩ = false) :
    Calls Tryd.prog 50 #[.pointer (some ⟨b, 0, none⟩)] w fun e w' => e = .returned (.tuple #[]) ∧ w' = w.setCell ⟨b, 0, none⟩ (.pointer (some ⟨b, 0, none⟩)) := by
  obtain ⟨j, hj, hjs⟩ := Option.map_eq_some_iff.1 sizeB
  have mixed := mixedB
  have t72 := Tryd.underlying67; have a72 := Tryd.isAgg67; have z72 := Tryd.sizeOf67; have v72 := Tryd.zeroValue67; have u72 := run_underlying Tryd.underlying67
  have t70 := Tryd.underlying65; have a70 := Tryd.isAgg65; have z70 := Tryd.sizeOf65; have v70 := Tryd.zeroValue65; have u70 := run_underlying Tryd.underlying65
  have t9 := Tryd.underlying9; have a9 := Tryd.isAgg9; have z9 := Tryd.sizeOf9; have v9 := Tryd.zeroValue9; have u9 := run_underlying Tryd.underlying9
  have t4 := Tryd.underlying4; have a4 := Tryd.isAgg4; have z4 := Tryd.sizeOf4; have v4 := Tryd.zeroValue4; have u4 := run_underlying Tryd.underlying4
  have t164 := Tryd.underlying87; have a164 := Tryd.isAgg87; have z164 := Tryd.sizeOf87; have v164 := Tryd.zeroValue87; have u164 := run_underlying Tryd.underlying87
  go_enter Tryd.func50, Tryd.ntmps50
  go_wp2
  rw [Lib.run_to_unsafe w ⟨b, 0, none⟩ t70 t164 hj (by rw [hjs]; decide) hsh (Nat.zero_lt_succ 1)]
  simp only [Result.andThen]
  rw [Oper.upon_value]
  go_wp2
  rw [run_callFunc_extern Tryd.func59 (by kernel_rfl) (by kernel_rfl) (by kernel_rfl) (e := Extern.AbiNoEscape.same) (by kernel_rfl)]
  rw [Lib.run_noEscape]
  simp only [Result.andThen]
  rw [Oper.upon_value]
  go_wp2
  rw [Lib.run_from_unsafe w ⟨b, 0, none⟩ t164 t70 hj hsh liesB]
  simp only [Result.andThen]
  rw [Oper.upon_value]
  go_wp2
  go_end0
  exact ⟨rfl, rfl⟩
theorem cc (b : Nat) (bs : List Value) (w : World) (h : Lib.IsBuilder 67 5 0 b bs w) :
    Calls Tryd.prog 50 #[.pointer (some ⟨b, 0, none⟩)] w fun e w' => e = .returned (.tuple #[]) ∧ Lib.BuilderAt 67 5 0 b (.pointer (some ⟨b, 0, none⟩)) bs w' ∧ (w' = w ∨ w' = w.setCell ⟨b, 0, none⟩ (.pointer (some ⟨b, 0, none⟩))) := by
  rcases h with h | h
  · refine (cc_fresh b w h.cell0 h.shape h.frozen0).mono ?_
    rintro e w' ⟨rfl, rfl⟩
    exact ⟨rfl, h.used _, .inr rfl⟩
  · refine (cc_used b w h.cell0).mono ?_
    rintro e w' ⟨rfl, rfl⟩
    exact ⟨rfl, h, .inl rfl⟩
set_option maxHeartbeats 4000000 in
set_option maxRecDepth 100000 in
theorem write (b : Nat) (bs : List Value) (ad : Addr) (m c : Nat) (news : List Value) (w : World) (h : Lib.IsBuilder 67 5 0 b bs w) (hl : news.length = m) (hnews : ∀ j u, news[j]? = some u → w.cell? (ad.add j) = some u) (hadb : ad.block ≠ b) (h1 : ∀ u ∈ news, u.oneCell' = true) (hlen : bs.length + m ≤ 140737488355328) :
    Calls Tryd.prog 43 #[.pointer (some ⟨b, 0, none⟩), .slice (some ad) m c] w fun e w' => e = .returned (.tuple #[.int .i64 m, .nilIface]) ∧ Lib.IsBuilder 67 5 0 b (bs ++ news) w' ∧ GrownO w w' b := by
  obtain ⟨i0, hi, hz0, hz1, hz2⟩ := info_parts infoB
  have e240 : ∀ args w, (callFunc 50 args).run Tryd.prog w = .ok (.enter 50 args) w := enters_of Tryd.func50 (by kernel_rfl) rfl
  have mixed := mixedB
  have t72 := Tryd.underlying67; have a72 := Tryd.isAgg67; have z72 := Tryd.sizeOf67; have v72 := Tryd.zeroValue67; have u72 := run_underlying Tryd.underlying67
  have t70 := Tryd.underlying65; have a70 := Tryd.isAgg65; have z70 := Tryd.sizeOf65; have v70 := Tryd.zeroValue65; have u70 := run_underlying Tryd.underlying65
  have t37 := Tryd.underlying45; have a37 := Tryd.isAgg45; have z37 := Tryd.sizeOf45; have v37 := Tryd.zeroValue45; have u37 := run_underlying Tryd.underlying45
  have t3 := Tryd.underlying3; have a3 := Tryd.isAgg3; have z3 := Tryd.sizeOf3; have v3 := Tryd.zeroValue3; have u3 := run_underlying Tryd.underlying3
  have t9 := Tryd.underlying9; have a9 := Tryd.isAgg9; have z9 := Tryd.sizeOf9; have v9 := Tryd.zeroValue9; have u9 := run_underlying Tryd.underlying9
  have t4 := Tryd.underlying4; have a4 := Tryd.isAgg4; have z4 := Tryd.sizeOf4; have v4 := Tryd.zeroValue4; have u4 := run_underlying Tryd.underlying4
  have t164 := Tryd.underlying87; have a164 := Tryd.isAgg87; have z164 := Tryd.sizeOf87; have v164 := Tryd.zeroValue87; have u164 := run_underlying Tryd.underlying87
  have t5 := Tryd.underlying5; have a5 := Tryd.isAgg5; have z5 := Tryd.sizeOf5; have v5 := Tryd.zeroValue5; have u5 := run_underlying Tryd.underlying5
  go_enter Tryd.func43, Tryd.ntmps43
  go_wp2_with (go_at_fn 50; refine (cc b bs _ h).mono ?_)
  rintro e w1 ⟨rfl, h1', hw1⟩
  have hlt := at_lt h1'
  obtain ⟨hB, v, hbk, hown, hne⟩ := h1'
  have c0 : w1.cell? ⟨b, 0, none⟩ = some (.pointer (some ⟨b, 0, none⟩)) := by rw [Lib.cell_of_heap hbk]; rfl
  have c1 : w1.cell? ⟨b, 1, none⟩ = some v := by rw [Lib.cell_of_heap hbk]; rfl
  have hnews1 : ∀ j u, news[j]? = some u → w1.cell? (ad.add j) = some u := fun j u hj => by
    rcases hw1 with rfl | rfl
    · exact hnews j u hj
    · rw [World.cell?_setCell_other _ _ _ _ (fun e => hadb ?_)]
      · exact hnews j u hj
      · have := congrArg Addr.block e
        unfold Addr.add at this
        split at this <;> simpa using this.symm
  go_wp2_with (at_builtin; refine step_app_slice rfl _ _ 45 rfl 5 i0 t37 hi hz0 hz1 hz2 _ _ _ rfl hown ad m c news rfl hl hnews1 h1 hlen ?_)
  intro v' w2 hown' hgrow hnew
  have hb2 : w2.heap[b]? = some (.cells #[.pointer (some ⟨b, 0, none⟩), v] 67 (0, 0)) := by
    rw [hgrow.block b hlt (fun e => hne e.symm)]
    exact hbk
  have d0 : w2.cell? ⟨b, 0, none⟩ = some (.pointer (some ⟨b, 0, none⟩)) := by rw [Lib.cell_of_heap hb2]; rfl
  have d1 : w2.cell? ⟨b, 1, none⟩ = some v := by rw [Lib.cell_of_heap hb2]; rfl
  have f1 : w2.frozen? ⟨b, 1, none⟩ = false := Lib.frozen_of_heap hb2 1
  obtain ⟨ao, n', cap, rfl⟩ : ∃ ao n' cap, v' = .slice ao n' cap := by
    rcases hown'.2 with ⟨hv, _⟩ | ⟨g, cap, cur, hv, _⟩
    · exact ⟨_, _, _, hv⟩
    · exact ⟨_, _, _, hv⟩
  go_wp2
  go_ret2
  refine ⟨rfl, .inr ?_, grown_write h hw1 c1 hgrow hown' hnew ⟨_, d1⟩⟩
  exact Lib.BuilderAt.put (T := 67) (e := 5) hB hb2 (bs' := bs ++ news) (by simpa [hl] using hown') (by decide)

set_option maxHeartbeats 4000000 in
set_option maxRecDepth 100000 in
theorem str (b : Nat) (l : List UInt8) (w : World) (h : Lib.IsBuilder 67 5 0 b (Lib.byteCells l) w) (h0 : l ≠ []) :
    Calls Tryd.prog 44 #[.pointer (some ⟨b, 0, none⟩)] w fun e w' => e = .returned (.string ⟨l.toArray⟩) ∧ (w'.os = w.os ∧ w'.tape = w.tape ∧ w'.output = w.output ∧ w.heap.size ≤ w'.heap.size ∧ ∀ k, k < w.heap.size → k ≠ b → bufOf w b ≠ some k → w'.heap[k]? = w.heap[k]?) ∧ ∀ x, w'.cell? x = w.cell? x := by
  obtain ⟨p, hB, v, hbk, hown, hne⟩ : ∃ p, Lib.BuilderAt 67 5 0 b p (Lib.byteCells l) w := by
    rcases h with h | h
    · exact ⟨_, h⟩
    · exact ⟨_, h⟩
  have hl0 : l.length ≠ 0 := by simpa using h0
  rw [Lib.byteCells_length] at hown
  obtain ⟨g, cap, cur, rfl, hbg, hg, hnc, hcm, hcs, htake⟩ : ∃ g cap cur, v = .slice (some ⟨g, 0, none⟩) l.length cap ∧ 0 ≤ g ∧ w.heap[g]? = some (.cells cur 5 (0, 0)) ∧ l.length ≤ cap ∧ cap ≤ maxLen ∧ cur.size = cap * 1 ∧ cur.toList.take (l.length * 1) = Lib.byteCells l := by
    rcases hown.2 with ⟨_, hz⟩ | ⟨g, cap, cur, hv, r⟩
    · exact absurd hz hl0
    · exact ⟨g, cap, cur, hv, r⟩
  have c1' : w.cell? ⟨b, 1, none⟩ = some (.slice (some ⟨g, 0, none⟩) l.length cap) := by rw [Lib.cell_of_heap hbk]; rfl
  have c1 : w.drew.cell? ⟨b, 1, none⟩ = some (.slice (some ⟨g, 0, none⟩) l.length cap) := c1'
  have hbuf : bufOf w b = some g := bufOf_own c1'
  have mixed := mixedB
  have t72 := Tryd.underlying67; have a72 := Tryd.isAgg67; have z72 := Tryd.sizeOf67; have v72 := Tryd.zeroValue67; have u72 := run_underlying Tryd.underlying67
  have t70 := Tryd.underlying65; have a70 := Tryd.isAgg65; have z70 := Tryd.sizeOf65; have v70 := Tryd.zeroValue65; have u70 := run_underlying Tryd.underlying65
  have t37 := Tryd.underlying45; have a37 := Tryd.isAgg45; have z37 := Tryd.sizeOf45; have v37 := Tryd.zeroValue45; have u37 := run_underlying Tryd.underlying45
  have t127 := Tryd.underlying77; have a127 := Tryd.isAgg77; have z127 := Tryd.sizeOf77; have v127 := Tryd.zeroValue77; have u127 := run_underlying Tryd.underlying77
  have t3 := Tryd.underlying3; have a3 := Tryd.isAgg3; have z3 := Tryd.sizeOf3; have v3 := Tryd.zeroValue3; have u3 := run_underlying Tryd.underlying3
  have t9 := Tryd.underlying9; have a9 := Tryd.isAgg9; have z9 := Tryd.sizeOf9; have v9 := Tryd.zeroValue9; have u9 := run_underlying Tryd.underlying9
  have t5 := Tryd.underlying5; have a5 := Tryd.isAgg5; have z5 := Tryd.sizeOf5; have v5 := Tryd.zeroValue5; have u5 := run_underlying Tryd.underlying5
  have hSD : (Builtin.unsafeSliceData_ #[45] 77 #[.slice (some ⟨g, 0, none⟩) l.length cap]).run Tryd.prog w.drew = .ok (.pointer (some ⟨g, 0, none⟩)) w.drew :=
    Lib.run_unsafeSliceData_row _ _ _ _ _ _ (by omega)
  have hUS : (Builtin.unsafeString_ #[77, 3] 9 #[.pointer (some ⟨g, 0, none⟩), .int .i64 l.length]).run Tryd.prog w.drew = .ok (.string ⟨l.toArray⟩) (w.drew.freeze ⟨g, 0, none⟩ l.length) := by
    refine Lib.run_unsafeString_row w.drew 77 3 9 5 t127 cellsB g cur.size (by have hg' : w.drew.heap[g]? = some (.cells cur 5 (0, 0)) := hg; simp [World.shape?, hg']) l h0 (by omega) (by unfold maxLen at hcm; omega) ?_
    intro j x hx
    exact hown.cells (g := g) rfl j (.int .u8 x.toNat) (by simp [Lib.byteCells, hx])
  have hfz : ∀ k, k ≠ g → (w.drew.freeze ⟨g, 0, none⟩ l.length).heap[k]? = w.heap[k]? := fun k hk => bfreeze_other w.drew g l.length k hk
  obtain ⟨hsz, hos, htp, hou⟩ := bfreeze_same w.drew g l.length
  go_enter Tryd.func44, Tryd.ntmps44
  go_wp2
  go_region_o
  all_goals (go_wp2; go_ret; exact ⟨rfl, ⟨hos, htp, hou, Nat.le_of_eq hsz.symm, fun k _ _ hk => hfz k (fun e => hk (by rw [hbuf, e]))⟩, fun x => freeze_cell w.drew _ _ x⟩)

end Go.Abs.TrydB
end
