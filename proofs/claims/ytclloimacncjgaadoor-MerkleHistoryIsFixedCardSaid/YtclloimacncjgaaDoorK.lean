/- Lemmas: an abstract interpreter, and what the functions compute. -/
import Derived.Test.YtclloimacncjgaaDoorE
set_option linter.unusedSimpArgs false
set_option linter.unusedVariables false
set_option linter.unusedSectionVars false
section
namespace Go.Abs
set_option maxRecDepth 20000
def oN (n : Nat) : Nat := if h : n = 0 then 0 else n % 2 + oN (n / 2)
termination_by n
decreasing_by omega
theorem oN_zero : oN 0 = 0 := by rw [oN, dif_pos rfl]
theorem oN_eq (n : Nat) : oN n = n % 2 + oN (n / 2) := by
  by_cases h : n = 0
  · subst h; rw [show 0 / 2 = 0 from rfl, oN_zero]
  · rw [oN, dif_neg h]
theorem oN_app : ∀ (k b x : Nat), b < 2 ^ k → oN (b + 2 ^ k * x) = oN b + oN x
  | 0, b, x, h => by
    have hb : b = 0 := by simpa using h
    subst hb; simp [oN_zero]
  | k + 1, b, x, h => by
    have e : 2 ^ (k + 1) * x = 2 * (2 ^ k * x) := by rw [Nat.pow_succ, Nat.mul_comm (2 ^ k) 2, Nat.mul_assoc]
    rw [Nat.pow_succ] at h
    generalize hy : 2 ^ k * x = y at e
    rw [oN_eq (b + _), oN_eq b, e, show (b + 2 * y) % 2 = b % 2 by omega, show (b + 2 * y) / 2 = b / 2 + y by omega, ← hy, oN_app k (b / 2) x (by omega)]
    omega
theorem oN_le : ∀ (k n : Nat), n < 2 ^ k → oN n ≤ k
  | 0, n, h => by
    have hn : n = 0 := by simpa using h
    subst hn; rw [oN_zero]; exact Nat.le_refl _
  | k + 1, n, h => by
    rw [Nat.pow_succ] at h
    have := oN_le k (n / 2) (by omega)
    rw [oN_eq]; omega
/-! ### Byte by byte -/
def vB : List Nat → Nat
  | [] => 0
  | b :: l => b + 256 * vB l
def oks (l : List Nat) : Prop := ∀ b ∈ l, b < 256
theorem vB_lt : ∀ {l : List Nat}, oks l → vB l < 256 ^ l.length
  | [], _ => by decide
  | b :: l, h => by
    have h1 := vB_lt (l := l) (fun x hx => h x (List.mem_cons_of_mem _ hx))
    have h2 := h b (List.mem_cons_self ..)
    show b + 256 * vB l < 256 ^ (l.length + 1)
    rw [Nat.pow_succ]; omega
def toB : Nat → Nat → List Nat
  | 0, _ => []
  | k + 1, x => x % 256 :: toB k (x / 256)
theorem toB_len : ∀ (k x : Nat), (toB k x).length = k
  | 0, _ => rfl
  | k + 1, x => by rw [toB, List.length_cons, toB_len k]
theorem toB_ok : ∀ (k x : Nat), oks (toB k x)
  | 0, _ => fun _ h => by cases h
  | k + 1, x => fun b h => by
    rcases List.mem_cons.1 h with h | h
    · rw [h]; exact Nat.mod_lt _ (by decide)
    · exact toB_ok k _ b h
theorem toB_val : ∀ (k x : Nat), x < 256 ^ k → vB (toB k x) = x
  | 0, x, h => by
    have hx : x = 0 := by simpa using h
    subst hx; rfl
  | k + 1, x, h => by
    rw [Nat.pow_succ] at h
    rw [toB, vB, toB_val k (x / 256) (Nat.div_lt_of_lt_mul (by omega))]; omega
theorem toB_ones : ∀ (k x : Nat), x < 256 ^ k → oN x = ((toB k x).map oN).sum
  | 0, x, h => by
    have hx : x = 0 := by simpa using h
    subst hx; exact oN_zero
  | k + 1, x, h => by
    rw [Nat.pow_succ] at h
    rw [toB, List.map_cons, List.sum_cons, ← toB_ones k (x / 256) (Nat.div_lt_of_lt_mul (by omega)), ← oN_app 8 _ _ (Nat.mod_lt _ (by decide))]
    congr 1
    show x = x % 256 + 256 * (x / 256)
    omega
def rep (d : Nat) : Nat → Nat
  | 0 => 0
  | k + 1 => d + 256 * rep d k
theorem and_byte (a x d m : Nat) (ha : a < 256) (hd : d < 256) : (a + 256 * x) &&& (d + 256 * m) = (a &&& d) + 256 * (x &&& m) := by
  have h1 : (a &&& d) < 2 ^ 8 := Nat.lt_of_le_of_lt Nat.and_le_left ha
  apply Nat.eq_of_testBit_eq
  intro i
  rw [Nat.testBit_and, show a + 256 * x = 2 ^ 8 * x + a by omega, show d + 256 * m = 2 ^ 8 * m + d by omega, show (a &&& d) + 256 * (x &&& m) = 2 ^ 8 * (x &&& m) + (a &&& d) by omega, Nat.testBit_two_pow_mul_add _ ha, Nat.testBit_two_pow_mul_add _ hd, Nat.testBit_two_pow_mul_add _ h1]
  by_cases h : i < 8
  · rw [if_pos h, if_pos h, if_pos h, Nat.testBit_and]
  · rw [if_neg h, if_neg h, if_neg h, Nat.testBit_and]
theorem and_mod (y d m : Nat) (hd : d < 256) : y &&& (d + 256 * m) = (y % 256 &&& d) + 256 * (y / 256 &&& m) := by
  have := and_byte (y % 256) (y / 256) d m (Nat.mod_lt _ (by decide)) hd
  rw [show y % 256 + 256 * (y / 256) = y by omega] at this
  exact this
def g1 (b : Nat) : Nat := (b / 2 &&& 85) + (b &&& 85)
def g2 (b : Nat) : Nat := (b / 4 &&& 51) + (b &&& 51)
def g3 (b : Nat) : Nat := (b / 16 + b) &&& 15
theorem g1_hi : ∀ b : Fin 512, (b.1 / 2 % 256 &&& 85) = (b.1 % 256 / 2 &&& 85) := by decide
theorem g2_hi : ∀ b : Fin 1024, (b.1 / 4 % 256 &&& 51) = (b.1 % 256 / 4 &&& 51) := by decide
theorem g_all : ∀ b : Fin 256, g1 b.1 < 256 ∧ g2 (g1 b.1) < 256 ∧ g2 (g1 b.1) % 16 ≤ 4 ∧ g2 (g1 b.1) / 16 ≤ 4 ∧ g3 (g2 (g1 b.1)) ≤ 8 := by decide
theorem st1 : ∀ l : List Nat, oks l → (vB l / 2 &&& rep 85 l.length) + (vB l &&& rep 85 l.length) = vB (l.map g1)
  | [], _ => rfl
  | b :: l, h => by
    have h1 := st1 l (fun x hx => h x (List.mem_cons_of_mem _ hx))
    have h2 := h b (List.mem_cons_self ..)
    have e := g1_hi ⟨(b + 256 * vB l) % 512, Nat.mod_lt _ (by decide)⟩
    simp only at e
    show ((b + 256 * vB l) / 2 &&& (85 + 256 * rep 85 l.length)) + ((b + 256 * vB l) &&& (85 + 256 * rep 85 l.length)) = g1 b + 256 * vB (l.map g1)
    rw [← h1, and_mod _ _ _ (by decide), and_byte _ _ _ _ h2 (by decide), g1]
    generalize vB l = v at *
    rw [show (b + 256 * v) / 2 / 256 = v / 2 by omega, show (b + 256 * v) / 2 % 256 = (b + 256 * v) % 512 / 2 % 256 by omega, e, show (b + 256 * v) % 512 % 256 = b by omega]
    omega
theorem st2 : ∀ l : List Nat, oks l → (vB l / 4 &&& rep 51 l.length) + (vB l &&& rep 51 l.length) = vB (l.map g2)
  | [], _ => rfl
  | b :: l, h => by
    have h1 := st2 l (fun x hx => h x (List.mem_cons_of_mem _ hx))
    have h2 := h b (List.mem_cons_self ..)
    have e := g2_hi ⟨(b + 256 * vB l) % 1024, Nat.mod_lt _ (by decide)⟩
    simp only at e
    show ((b + 256 * vB l) / 4 &&& (51 + 256 * rep 51 l.length)) + ((b + 256 * vB l) &&& (51 + 256 * rep 51 l.length)) = g2 b + 256 * vB (l.map g2)
    rw [← h1, and_mod _ _ _ (by decide), and_byte _ _ _ _ h2 (by decide), g2]
    generalize vB l = v at *
    rw [show (b + 256 * v) / 4 / 256 = v / 4 by omega, show (b + 256 * v) / 4 % 256 = (b + 256 * v) % 1024 / 4 % 256 by omega, e, show (b + 256 * v) % 1024 % 256 = b by omega]
    omega
def nibs (l : List Nat) : Prop := ∀ b ∈ l, b < 256 ∧ b % 16 ≤ 4 ∧ b / 16 ≤ 4
theorem vB_nib : ∀ l : List Nat, nibs l → vB l % 16 ≤ 4
  | [], _ => by decide
  | b :: l, h => by
    have h2 := h b (List.mem_cons_self ..)
    show (b + 256 * vB l) % 16 ≤ 4
    omega
theorem and15 (x : Nat) (h : x < 256) : x &&& 15 = x % 16 := Nat.and_two_pow_sub_one_eq_mod x 4
theorem st3 : ∀ l : List Nat, nibs l → ((vB l / 16 + vB l) &&& rep 15 l.length) = vB (l.map g3)
  | [], _ => rfl
  | b :: l, h => by
    have hl : nibs l := fun x hx => h x (List.mem_cons_of_mem _ hx)
    have h1 := st3 l hl
    have h2 := h b (List.mem_cons_self ..)
    have h3 := vB_nib l hl
    show (((b + 256 * vB l) / 16 + (b + 256 * vB l)) &&& (15 + 256 * rep 15 l.length)) = g3 b + 256 * vB (l.map g3)
    rw [← h1, and_mod _ _ _ (by decide), g3]
    generalize vB l = v at *
    have e : (b + 256 * v) / 16 + (b + 256 * v) = (b / 16 + b + 16 * (v % 16)) + 256 * (v / 16 + v) := by omega
    rw [e]
    have l1 : b / 16 + b + 16 * (v % 16) < 256 := by omega
    rw [show ((b / 16 + b + 16 * (v % 16)) + 256 * (v / 16 + v)) / 256 = v / 16 + v by omega, show ((b / 16 + b + 16 * (v % 16)) + 256 * (v / 16 + v)) % 256 = b / 16 + b + 16 * (v % 16) by omega, and15 _ l1, and15 _ (by omega)]
    omega
end Go.Abs
namespace Go.Abs
set_option maxRecDepth 20000
/-! ### All eight bytes together -/
theorem oN_g : ∀ b : Fin 256, g3 (g2 (g1 b.1)) = b.1 % 2 + (b.1 / 2 % 2 + (b.1 / 4 % 2 + (b.1 / 8 % 2 + (b.1 / 16 % 2 + (b.1 / 32 % 2 + (b.1 / 64 % 2 + b.1 / 128 % 2)))))) := by decide
theorem oN_byte {b : Nat} (h : b < 256) : oN b = g3 (g2 (g1 b)) := by
  rw [oN_g ⟨b, h⟩, oN_eq b, oN_eq (b / 2), oN_eq (b / 2 / 2), oN_eq (b / 2 / 2 / 2), oN_eq (b / 2 / 2 / 2 / 2), oN_eq (b / 2 / 2 / 2 / 2 / 2), oN_eq (b / 2 / 2 / 2 / 2 / 2 / 2), oN_eq (b / 2 / 2 / 2 / 2 / 2 / 2 / 2)]
  simp only [Nat.div_div_eq_div_mul]
  rw [show b / (2 * 2 * 2 * 2 * 2 * 2 * 2 * 2) = 0 by omega, oN_zero]
  rfl
theorem vB8 (p0 p1 p2 p3 p4 p5 p6 p7 : Nat) : vB [p0, p1, p2, p3, p4, p5, p6, p7] = p0 + 256 * (p1 + 256 * (p2 + 256 * (p3 + 256 * (p4 + 256 * (p5 + 256 * (p6 + 256 * (p7 + 256 * 0))))))) := rfl
theorem fold8 {p r : Nat} (hp : p < 256) : (p + 256 * r) / 256 = r := by omega
theorem fold16 {a b c : Nat} (h : a + 256 * b < 65536) : (a + 256 * (b + 256 * c)) / 65536 = c := by omega
theorem fold32 {a b c d e : Nat} (h : a + 256 * (b + 256 * (c + 256 * d)) < 4294967296) : (a + 256 * (b + 256 * (c + 256 * (d + 256 * e)))) / 4294967296 = e := by omega
theorem vB8_lt {c0 c1 c2 c3 c4 c5 c6 c7 : Nat} (h0 : c0 < 256) (h1 : c1 < 256) (h2 : c2 < 256) (h3 : c3 < 256) (h4 : c4 < 256) (h5 : c5 < 256) (h6 : c6 < 256) (h7 : c7 < 256) : vB [c0, c1, c2, c3, c4, c5, c6, c7] < 2 ^ 64 := by
  have := vB_lt (l := [c0, c1, c2, c3, c4, c5, c6, c7]) (fun b hb => by
    simp only [List.mem_cons, List.not_mem_nil, or_false] at hb
    rcases hb with h | h | h | h | h | h | h | h <;> (rw [h]; assumption))
  rw [show [c0, c1, c2, c3, c4, c5, c6, c7].length = 8 from rfl, show (256 : Nat) ^ 8 = 2 ^ 64 by decide] at this
  exact this
set_option maxHeartbeats 4000000 in
theorem sum8 {p0 p1 p2 p3 p4 p5 p6 p7 x y z : Nat} (h0 : p0 ≤ 8) (h1 : p1 ≤ 8) (h2 : p2 ≤ 8) (h3 : p3 ≤ 8) (h4 : p4 ≤ 8) (h5 : p5 ≤ 8) (h6 : p6 ≤ 8) (h7 : p7 ≤ 8)
    (hx : x = vB [p0, p1, p2, p3, p4, p5, p6, p7] + vB [p0, p1, p2, p3, p4, p5, p6, p7] / 256) (hy : y = x + x / 65536) (hz : z = y + y / 4294967296) :
    x < 2 ^ 64 ∧ y < 2 ^ 64 ∧ z < 2 ^ 64 ∧ z % 128 = p0 + p1 + p2 + p3 + p4 + p5 + p6 + p7 := by
  have ex : x = vB [p0 + p1, p1 + p2, p2 + p3, p3 + p4, p4 + p5, p5 + p6, p6 + p7, p7] := by
    rw [hx, vB8, fold8 (by omega), vB8]; omega
  have ey : y = vB [p0 + p1 + p2 + p3, p1 + p2 + p3 + p4, p2 + p3 + p4 + p5, p3 + p4 + p5 + p6, p4 + p5 + p6 + p7, p5 + p6 + p7, p6 + p7, p7] := by
    rw [hy, ex, vB8, fold16 (by omega), vB8]; omega
  have ez : z = vB [p0 + p1 + p2 + p3 + p4 + p5 + p6 + p7, p1 + p2 + p3 + p4 + p5 + p6 + p7, p2 + p3 + p4 + p5 + p6 + p7, p3 + p4 + p5 + p6 + p7, p4 + p5 + p6 + p7, p5 + p6 + p7, p6 + p7, p7] := by
    rw [hz, ey, vB8, fold32 (by omega), vB8]; omega
  clear hx hy hz
  refine And.intro ?_ (And.intro ?_ (And.intro ?_ ?_))
  · rw [ex]
    clear ex ey ez
    apply vB8_lt <;> omega
  · rw [ey]
    clear ex ey ez
    apply vB8_lt <;> omega
  · rw [ez]
    clear ex ey ez
    apply vB8_lt <;> omega
  · rw [ez, vB8]
    clear ex ey ez
    rw [show ∀ w S : Nat, S ≤ 64 → (S + 256 * w) % 128 = S from fun w S h => by omega]
    omega
theorem vB_step {c r B : Nat} (hc : c < 256) (hr : r ≤ B) : c + 256 * r ≤ 255 + 256 * B := by omega
theorem vB_top {x : Nat} (h : x ≤ 4971973988617027583) : x / 16 + x < 2 ^ 64 := by omega
theorem vB_most {c0 c1 c2 c3 c4 c5 c6 c7 : Nat} (h0 : c0 < 256) (h1 : c1 < 256) (h2 : c2 < 256) (h3 : c3 < 256) (h4 : c4 < 256) (h5 : c5 < 256) (h6 : c6 < 256) (h7 : c7 ≤ 68) : vB [c0, c1, c2, c3, c4, c5, c6, c7] ≤ 4971973988617027583 := by
  rw [vB8]
  exact vB_step h0 (B := 19421773393035263) (vB_step h1 (B := 75866302316543) (vB_step h2 (B := 296352743423) (vB_step h3 (B := 1157627903) (vB_step h4 (B := 4521983) (vB_step h5 (B := 17663) (vB_step h6 (B := 68) (show c7 + 256 * 0 ≤ 68 by omega)))))))
def sB1 (x : Nat) : Nat := (x / 2 &&& 6148914691236517205) + (x &&& 6148914691236517205)
def sB2 (x : Nat) : Nat := (x / 4 &&& 3689348814741910323) + (x &&& 3689348814741910323)
def sB3 (x : Nat) : Nat := (x / 16 + x) &&& 1085102592571150095
set_option maxHeartbeats 4000000 in
theorem swar {x : Nat} (h : x < 2 ^ 64) : sB1 x < 2 ^ 64 ∧ sB2 (sB1 x) < 2 ^ 64 ∧ sB2 (sB1 x) / 16 + sB2 (sB1 x) < 2 ^ 64 ∧ ∃ p0 p1 p2 p3 p4 p5 p6 p7 : Nat, (p0 ≤ 8 ∧ p1 ≤ 8 ∧ p2 ≤ 8 ∧ p3 ≤ 8) ∧ (p4 ≤ 8 ∧ p5 ≤ 8 ∧ p6 ≤ 8 ∧ p7 ≤ 8) ∧ sB3 (sB2 (sB1 x)) = vB [p0, p1, p2, p3, p4, p5, p6, p7] ∧ oN x = p0 + p1 + p2 + p3 + p4 + p5 + p6 + p7 := by
  have hx : x < 256 ^ 8 := h
  have ev := toB_val 8 x hx
  have ok := toB_ok 8 x
  have eo := toB_ones 8 x hx
  have el := toB_len 8 x
  generalize toB 8 x = l at *
  have k1 : oks (l.map g1) := fun b hb => by
    obtain ⟨a, ha, rfl⟩ := List.mem_map.1 hb
    exact (g_all ⟨a, ok a ha⟩).1
  have k2 : nibs ((l.map g1).map g2) := fun b hb => by
    obtain ⟨a, ha, rfl⟩ := List.mem_map.1 hb
    obtain ⟨c, hc, rfl⟩ := List.mem_map.1 ha
    have := g_all ⟨c, ok c hc⟩
    exact ⟨this.2.1, this.2.2.1, this.2.2.2.1⟩
  have k2' : oks ((l.map g1).map g2) := fun b hb => (k2 b hb).1
  have e1 := st1 l ok
  have e2 := st2 _ k1
  have e3 := st3 _ k2
  have n1 := vB_lt k1
  have n2 := vB_lt k2'
  simp only [List.length_map, el] at e1 e2 e3 n1 n2
  rw [show (256 : Nat) ^ 8 = 2 ^ 64 by decide] at n1 n2
  have t1 : sB1 x = vB (l.map g1) := by rw [← e1, ev]; rfl
  have t2 : sB2 (sB1 x) = vB ((l.map g1).map g2) := by rw [t1, ← e2]; rfl
  have t3 : sB3 (sB2 (sB1 x)) = vB (((l.map g1).map g2).map g3) := by rw [t2, ← e3]; rfl
  have top : vB ((l.map g1).map g2) / 16 + vB ((l.map g1).map g2) < 2 ^ 64 := by
    match l, el with
    | [a0, a1, a2, a3, a4, a5, a6, a7], _ =>
      simp only [List.map_cons, List.map_nil]
      have h7 := (k2 (g2 (g1 a7)) (by simp)).2
      exact vB_top (vB_most (k2 _ (by simp)).1 (k2 _ (by simp)).1 (k2 _ (by simp)).1 (k2 _ (by simp)).1 (k2 _ (by simp)).1 (k2 _ (by simp)).1 (k2 _ (by simp)).1 (by omega))
  refine And.intro (by rw [t1]; exact n1) (And.intro (by rw [t2]; exact n2) (And.intro (by rw [t2]; exact top) ?_))
  match l, el with
  | [a0, a1, a2, a3, a4, a5, a6, a7], _ =>
    have q : ∀ a, a ∈ [a0, a1, a2, a3, a4, a5, a6, a7] → g3 (g2 (g1 a)) ≤ 8 := fun a ha => (g_all ⟨a, ok a ha⟩).2.2.2.2
    simp only [List.map_cons, List.map_nil] at t3
    have eo' : oN x = g3 (g2 (g1 a0)) + g3 (g2 (g1 a1)) + g3 (g2 (g1 a2)) + g3 (g2 (g1 a3)) + g3 (g2 (g1 a4)) + g3 (g2 (g1 a5)) + g3 (g2 (g1 a6)) + g3 (g2 (g1 a7)) := by
      rw [eo]
      simp only [List.map_cons, List.map_nil, List.sum_cons, List.sum_nil]
      rw [oN_byte (ok a0 (by simp)), oN_byte (ok a1 (by simp)), oN_byte (ok a2 (by simp)), oN_byte (ok a3 (by simp)), oN_byte (ok a4 (by simp)), oN_byte (ok a5 (by simp)), oN_byte (ok a6 (by simp)), oN_byte (ok a7 (by simp))]
      simp only [Nat.add_zero, Nat.add_assoc]
    exact ⟨g3 (g2 (g1 a0)), g3 (g2 (g1 a1)), g3 (g2 (g1 a2)), g3 (g2 (g1 a3)), g3 (g2 (g1 a4)), g3 (g2 (g1 a5)), g3 (g2 (g1 a6)), g3 (g2 (g1 a7)), ⟨q a0 (by simp), q a1 (by simp), q a2 (by simp), q a3 (by simp)⟩, ⟨q a4 (by simp), q a5 (by simp), q a6 (by simp), q a7 (by simp)⟩, t3, eo'⟩
end Go.Abs
end

section
namespace Go.Abs
def tzN (n : Nat) : Nat := if h : n = 0 then 0 else if n % 2 = 1 then 0 else tzN (n / 2) + 1
termination_by n
decreasing_by omega
theorem tzN_odd {n : Nat} (h : n % 2 = 1) : tzN n = 0 := by rw [tzN, dif_neg (by omega), if_pos h]
theorem tzN_even {n : Nat} (h0 : n ≠ 0) (h : n % 2 = 0) : tzN n = tzN (n / 2) + 1 := by rw [tzN, dif_neg h0, if_neg (by omega)]
def t1N (n : Nat) : Nat := if h : n % 2 = 1 then t1N (n / 2) + 1 else 0
termination_by n
decreasing_by omega
theorem toN_odd {n : Nat} (h : n % 2 = 1) : t1N n = t1N (n / 2) + 1 := by rw [t1N, dif_pos h]
theorem toN_even {n : Nat} (h : n % 2 = 0) : t1N n = 0 := by rw [t1N, dif_neg (by omega)]
theorem toN_le_oN (n : Nat) : t1N n ≤ oN n := by
  induction n using Nat.strongRecOn with
  | ind n ih =>
    by_cases h : n % 2 = 1
    · rw [toN_odd h, oN_eq]
      have := ih (n / 2) (by omega)
      omega
    · rw [toN_even (by omega)]; exact Nat.zero_le _
theorem land_neg : ∀ (w n : Nat), 0 < n → n < 2 ^ w → n &&& (2 ^ w - n) = 2 ^ tzN n
  | 0, n, h, h' => by simp at h'; omega
  | w + 1, n, h, h' => by
    have e : n &&& (2 ^ (w + 1) - n) = 2 * (n / 2 &&& (2 ^ (w + 1) - n) / 2) + (n % 2) * ((2 ^ (w + 1) - n) % 2) := by
      have hd : ∀ a b : Nat, a &&& b = 2 * (a / 2 &&& b / 2) + (a % 2) * (b % 2) := fun a b => by
        have h1 : (a &&& b) / 2 = a / 2 &&& b / 2 := Nat.and_div_two
        have h2 : (a &&& b) % 2 = (a % 2) * (b % 2) := by
          have := @Nat.and_mod_two_pow a b 1
          simp only [Nat.pow_one] at this
          rw [this]
          rcases Nat.mod_two_eq_zero_or_one a with ha | ha <;> rcases Nat.mod_two_eq_zero_or_one b with hb | hb <;> rw [ha, hb] <;> rfl
        omega
      exact hd _ _
    rw [e]
    rw [Nat.pow_succ] at h' ⊢
    by_cases ho : n % 2 = 1
    · rw [tzN_odd ho, show (2 ^ w * 2 - n) / 2 = 2 ^ w - (n / 2 + 1) by omega, show (2 ^ w * 2 - n) % 2 = 1 by omega, ho]
      have : n / 2 &&& (2 ^ w - (n / 2 + 1)) = 0 := by
        apply Nat.eq_of_testBit_eq
        intro i
        rw [Nat.testBit_and, Nat.testBit_two_pow_sub_succ (by omega)]
        cases Nat.testBit (n / 2) i <;> simp
      rw [this]
    · have he : n % 2 = 0 := by omega
      have := land_neg w (n / 2) (by omega) (by omega)
      rw [tzN_even (by omega) he, show (2 ^ w * 2 - n) / 2 = 2 ^ w - n / 2 by omega, this, he, Nat.pow_succ]
      omega
theorem tz_to : ∀ (w n : Nat), n + 1 < 2 ^ w → tzN (2 ^ w - 1 - n) = t1N n
  | 0, n, h => by simp at h
  | w + 1, n, h => by
    rw [Nat.pow_succ] at h ⊢
    by_cases ho : n % 2 = 1
    · rw [toN_odd ho, tzN_even (by omega) (by omega), show (2 ^ w * 2 - 1 - n) / 2 = 2 ^ w - 1 - n / 2 by omega, tz_to w (n / 2) (by omega)]
    · rw [toN_even (by omega), tzN_odd (by omega)]
theorem tzN_lt : ∀ (w n : Nat), 0 < n → n < 2 ^ w → tzN n < w
  | 0, n, h, h' => by simp at h'; omega
  | w + 1, n, h, h' => by
    rw [Nat.pow_succ] at h'
    by_cases ho : n % 2 = 1
    · rw [tzN_odd ho]; omega
    · rw [tzN_even (by omega) (by omega)]
      have := tzN_lt w (n / 2) (by omega) (by omega)
      omega
end Go.Abs
end
