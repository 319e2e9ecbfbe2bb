/- Floats by their words: bounds of sums, products and quotients. Plain numbers: no program. -/
import Derived.Laws.FloatArith
namespace Go.Proofs.Yteaghcchalfgmaa.Nm
open Ieee
set_option linter.unusedVariables false
set_option maxRecDepth 10000

/-- the word without its sign; the sign. -/
def rg (x : Nat) : Nat := x % 9223372036854775808
def sg (x : Nat) : Bool := x / 9223372036854775808 % 2 == 1
/-- the amount is 2^(j-1023) at most. -/
def Bd (j x : Nat) : Prop := x < 18446744073709551616 ∧ rg x ≤ j * 4503599627370496

theorem sw_ : double.signWeight = 9223372036854775808 := rfl
theorem bn_ : double.binade = 4503599627370496 := rfl
theorem ir_ : double.infRung = 9218868437227405312 := rfl
theorem lp_ : double.leastPlace = -1074 := rfl
theorem fb_ : double.fractionBits = 52 := rfl

theorem bd_mono {i j x : Nat} (h : Bd i x) (hij : i ≤ j) : Bd j x := ⟨h.1, Nat.le_trans h.2 (Nat.mul_le_mul_right _ hij)⟩

theorem read_fin {x : Nat} (h : rg x < 9218868437227405312) : ∃ m k : Nat, double.read x = .number (sg x) m (-1074 + (k : Int)) ∧
    ((rg x < 4503599627370496 ∧ m = rg x ∧ k = 0) ∨ (4503599627370496 ≤ rg x ∧ m = 4503599627370496 + rg x % 4503599627370496 ∧ k = rg x / 4503599627370496 - 1)) := by
  unfold Format.read
  rw [sw_, bn_, ir_, lp_]
  show ∃ m k, (if rg x < 4503599627370496 then Datum.number (sg x) (rg x) (-1074) else if rg x < 9218868437227405312 then Datum.number (sg x) (4503599627370496 + rg x % 4503599627370496) (-1074 + ((rg x / 4503599627370496 - 1 : Nat) : Int)) else _) = _ ∧ _
  by_cases h1 : rg x < 4503599627370496
  · rw [if_pos h1]; exact ⟨rg x, 0, rfl, .inl ⟨h1, rfl, rfl⟩⟩
  · rw [if_neg h1, if_pos h]; exact ⟨_, _, rfl, .inr ⟨by omega, rfl, rfl⟩⟩

theorem read_Bd {j x : Nat} (h : Bd j x) (hj : 1 ≤ j) (hj2 : j ≤ 2046) : ∃ m n k : Nat, double.read x = .number (sg x) m (-1074 + (k : Int)) ∧ m ≤ 2 ^ n ∧ n + k ≤ j + 51 ∧ 52 ≤ n := by
  obtain ⟨h0, h1⟩ := h
  obtain ⟨m, k, e, c⟩ := read_fin (x := x) (by omega)
  rcases c with ⟨c1, rfl, rfl⟩ | ⟨c1, rfl, rfl⟩
  · exact ⟨_, 52, _, e, by omega, by omega, by omega⟩
  · by_cases hq : rg x / 4503599627370496 = j
    · have hr : rg x % 4503599627370496 = 0 := by omega
      exact ⟨_, 52, _, e, by omega, by omega, by omega⟩
    · have : rg x / 4503599627370496 < j := by omega
      exact ⟨_, 53, _, e, by omega, by omega, by omega⟩

theorem read_lo {l x : Nat} (h : l * 4503599627370496 ≤ rg x) (hl : 1 ≤ l) (hf : rg x < 9218868437227405312) : ∃ m k : Nat, double.read x = .number (sg x) m (-1074 + (k : Int)) ∧ 4503599627370496 ≤ m ∧ l ≤ k + 1 := by
  obtain ⟨m, k, e, c⟩ := read_fin hf
  rcases c with ⟨c1, rfl, rfl⟩ | ⟨c1, rfl, rfl⟩
  · exact absurd h (by omega)
  · exact ⟨_, _, e, by omega, by omega⟩

theorem pow_le {a b : Nat} (h : a ≤ b) : 2 ^ a ≤ 2 ^ b := Nat.pow_le_pow_right (by decide) h
theorem pow_lt {a b : Nat} (h : a < b) : 2 ^ a < 2 ^ b := Nat.pow_lt_pow_right (by decide) h
theorem lt_log {n : Nat} : n < 2 ^ (n.log2 + 1) := Nat.lt_log2_self
theorem log_le {n : Nat} (h : n ≠ 0) : 2 ^ n.log2 ≤ n := Nat.log2_self_le h

theorem cut_le {s : Bool} {n d : Nat} (h : n < 2 ^ (53 + d)) : Toward.even.cut s n d ≤ 9007199254740992 := by
  unfold Toward.cut
  rw [Nat.one_shiftLeft]
  dsimp only
  have hb : ∀ b : Bool, b.toNat ≤ 1 := fun b => by cases b <;> decide
  have key : n / 2 ^ min d (n.log2 + 2) < 9007199254740992 := by
    by_cases hd : d ≤ n.log2 + 2
    · rw [Nat.min_eq_left hd]
      rw [Nat.pow_add] at h
      exact (Nat.div_lt_iff_lt_mul (Nat.two_pow_pos _)).2 h
    · rw [Nat.min_eq_right (by omega)]
      have : n < 2 ^ (n.log2 + 2) := Nat.lt_trans lt_log (pow_lt (by omega))
      rw [Nat.div_eq_of_lt this]; decide
  exact Nat.le_trans (Nat.add_le_add_left (hb _) _) key

theorem cut_ge {s : Bool} {n d : Nat} (h : 2 ^ (52 + d) ≤ n) : 4503599627370496 ≤ Toward.even.cut s n d := by
  unfold Toward.cut
  rw [Nat.one_shiftLeft]
  dsimp only
  have hl : d ≤ n.log2 + 2 := by
    have h1 : 2 ^ (52 + d) < 2 ^ (n.log2 + 1) := Nat.lt_of_le_of_lt h lt_log
    have h2 := (Nat.pow_lt_pow_iff_right (a := 2) (by decide)).1 h1
    omega
  rw [Nat.min_eq_left hl]
  refine Nat.le_trans ?_ (Nat.le_add_right _ _)
  refine (Nat.le_div_iff_mul_le (Nat.two_pow_pos _)).2 ?_
  rw [Nat.pow_add] at h
  exact h

theorem shl_ {a b : Nat} : a <<< b = a * 2 ^ b := Nat.shiftLeft_eq ..

/-- The nearest word's rung. -/
theorem near_up (s : Bool) {mag n j : Nat} {p : Int} (hm : mag ≤ 2 ^ n) (hp : (n : Int) + p ≤ (j : Int) - 1023) (hj : 1 ≤ j) (hj2 : j + 1 ≤ 2046) :
    ∃ r, double.nearest s mag p = double.word s r ∧ r ≤ (j + 1) * 4503599627370496 := by
  unfold Format.nearest
  rw [fb_, lp_, bn_, ir_]
  by_cases h0 : mag = 0
  · rw [if_pos h0]; exact ⟨0, rfl, Nat.zero_le _⟩
  rw [if_neg h0]
  dsimp only
  have he : mag.log2 ≤ n := by
    have h1 : 2 ^ mag.log2 < 2 ^ (n + 1) := Nat.lt_of_le_of_lt (Nat.le_trans (log_le h0) hm) (pow_lt (by omega))
    have h2 := (Nat.pow_lt_pow_iff_right (a := 2) (by decide)).1 h1
    omega
  generalize hL : max (p + (mag.log2 : Int) - ((52 : Nat) : Int)) (-1074) = last
  have hl1 : p + (mag.log2 : Int) - 52 ≤ last := by omega
  have hl2 : -1074 ≤ last := by omega
  have hl3 : last = p + (mag.log2 : Int) - 52 ∨ last = -1074 := by omega
  have hk : Toward.even.cut s (mag <<< (p - last).toNat) (last - p).toNat ≤ 9007199254740992 := by
    apply cut_le
    rw [shl_]
    have h1 : mag * 2 ^ (p - last).toNat < 2 ^ (mag.log2 + 1) * 2 ^ (p - last).toNat := Nat.mul_lt_mul_of_pos_right lt_log (Nat.two_pow_pos _)
    rw [← Nat.pow_add] at h1
    exact Nat.lt_of_lt_of_le h1 (pow_le (by omega))
  generalize Toward.even.cut s (mag <<< (p - last).toNat) (last - p).toNat = kept at hk ⊢
  refine ⟨_, rfl, ?_⟩
  refine Nat.le_trans (Nat.min_le_left _ _) ?_
  have : (last - -1074).toNat + 2 ≤ j + 1 := by omega
  have h2 : ((last - -1074).toNat + 2) * 4503599627370496 ≤ (j + 1) * 4503599627370496 := Nat.mul_le_mul_right _ this
  omega

theorem near_lo (s : Bool) {mag n j : Nat} {p : Int} (hm : 2 ^ n ≤ mag) (hp : (j : Int) - 1023 ≤ (n : Int) + p) (hj : 1 ≤ j) (hj2 : j ≤ 2046) :
    ∃ r, double.nearest s mag p = double.word s r ∧ j * 4503599627370496 ≤ r ∧ r ≤ 9218868437227405312 := by
  unfold Format.nearest
  rw [fb_, lp_, bn_, ir_]
  have h0 : mag ≠ 0 := by have := Nat.two_pow_pos n; omega
  rw [if_neg h0]
  dsimp only
  have he : n ≤ mag.log2 := by
    have h1 : 2 ^ n < 2 ^ (mag.log2 + 1) := Nat.lt_of_le_of_lt hm lt_log
    have h2 := (Nat.pow_lt_pow_iff_right (a := 2) (by decide)).1 h1
    omega
  generalize hL : max (p + (mag.log2 : Int) - ((52 : Nat) : Int)) (-1074) = last
  have hl3 : last = p + (mag.log2 : Int) - 52 := by omega
  have hk : 4503599627370496 ≤ Toward.even.cut s (mag <<< (p - last).toNat) (last - p).toNat := by
    apply cut_ge
    rw [shl_]
    have h1 : 2 ^ mag.log2 * 2 ^ (p - last).toNat ≤ mag * 2 ^ (p - last).toNat := Nat.mul_le_mul_right _ (log_le h0)
    rw [← Nat.pow_add] at h1
    exact Nat.le_trans (pow_le (by omega)) h1
  generalize Toward.even.cut s (mag <<< (p - last).toNat) (last - p).toNat = kept at hk ⊢
  refine ⟨_, rfl, ?_, Nat.min_le_right _ _⟩
  have : j ≤ (last - -1074).toNat + 1 := by omega
  have h2 : j * 4503599627370496 ≤ ((last - -1074).toNat + 1) * 4503599627370496 := Nat.mul_le_mul_right _ this
  exact Nat.le_min.2 ⟨by omega, by omega⟩

theorem word_rg (s : Bool) {r : Nat} (h : r < 9223372036854775808) : rg (double.word s r) = r ∧ sg (double.word s r) = s ∧ double.word s r < 18446744073709551616 := by
  unfold Format.word rg sg
  rw [sw_]
  cases s
  · simp only [Bool.false_eq_true, if_false]
    refine ⟨by omega, ?_, by omega⟩
    have : r / 9223372036854775808 = 0 := by omega
    rw [this]; rfl
  · simp only [if_true]
    refine ⟨by omega, ?_, by omega⟩
    have : (9223372036854775808 + r) / 9223372036854775808 % 2 = 1 := by omega
    rw [this]; rfl

theorem natAbs_signed (s : Bool) (m u : Nat) : (signed s m u).natAbs = m * 2 ^ u := by
  unfold signed; rw [shl_]; cases s
  · exact Int.natAbs_natCast _
  · exact (Int.natAbs_neg _).trans (Int.natAbs_natCast _)

/-- What is written of a number that is small enough. -/
theorem write_Bd (s : Bool) {mag n j : Nat} {p : Int} (hm : mag ≤ 2 ^ n) (hp : (n : Int) + p ≤ (j : Int) - 1023) (hj : 1 ≤ j) (hj2 : j + 1 ≤ 2046) :
    Bd (j + 1) (double.write (.number s mag p)) := by
  obtain ⟨r, e, hr⟩ := near_up s hm hp hj hj2
  show Bd (j + 1) (double.nearest s mag p)
  rw [e]
  obtain ⟨e1, -, e3⟩ := word_rg s (r := r) (by omega)
  exact ⟨e3, by rw [e1]; exact hr⟩

theorem sum_Bd {i s t : Nat} {a b : Bool} {m n k m' n' k' : Nat} (hi : 1 ≤ i) (hi2 : i + 2 ≤ 2046) (hm : m ≤ 2 ^ n) (hk : n + k ≤ i + 51) (hm' : m' ≤ 2 ^ n') (hk' : n' + k' ≤ i + 51) :
    ∃ z, ((Datum.number a m (-1074 + (k : Int))).sum (.number b m' (-1074 + (k' : Int)))).map double.write = some z ∧ Bd (i + 2) z := by
  refine ⟨_, rfl, ?_⟩
  have hb : min (-1074 + (k : Int)) (-1074 + (k' : Int)) = -1074 + (min k k' : Nat) := by omega
  rw [hb]
  refine write_Bd (n := i + 52 - min k k') (j := i + 1) _ ?_ (by omega) (by omega) (by omega)
  refine Nat.le_trans (Int.natAbs_add_le _ _) ?_
  rw [natAbs_signed, natAbs_signed]
  have e1 : (-1074 + (k : Int) - (-1074 + (min k k' : Nat))).toNat = k - min k k' := by omega
  have e2 : (-1074 + (k' : Int) - (-1074 + (min k k' : Nat))).toNat = k' - min k k' := by omega
  rw [e1, e2]
  have h1 : m * 2 ^ (k - min k k') ≤ 2 ^ (i + 51 - min k k') := by
    refine Nat.le_trans (Nat.mul_le_mul_right _ hm) ?_
    rw [← Nat.pow_add]; exact pow_le (by omega)
  have h2 : m' * 2 ^ (k' - min k k') ≤ 2 ^ (i + 51 - min k k') := by
    refine Nat.le_trans (Nat.mul_le_mul_right _ hm') ?_
    rw [← Nat.pow_add]; exact pow_le (by omega)
  have h3 : i + 52 - min k k' = (i + 51 - min k k') + 1 := by omega
  rw [h3, Nat.pow_succ]; omega

theorem add_Bd {i x y : Nat} (hx : Bd i x) (hy : Bd i y) (hi : 1 ≤ i) (hi2 : i + 2 ≤ 2046) : ∃ z, floatBits .add .f64 x y = some z ∧ Bd (i + 2) z := by
  obtain ⟨m, n, k, e, a1, a2, -⟩ := read_Bd hx hi (by omega)
  obtain ⟨m', n', k', e', b1, b2, -⟩ := read_Bd hy hi (by omega)
  show ∃ z, ((double.read x).sum (double.read y)).map double.write = some z ∧ _
  rw [e, e']
  exact sum_Bd (s := 0) (t := 0) hi hi2 a1 a2 b1 b2

theorem sub_Bd {i x y : Nat} (hx : Bd i x) (hy : Bd i y) (hi : 1 ≤ i) (hi2 : i + 2 ≤ 2046) : ∃ z, floatBits .sub .f64 x y = some z ∧ Bd (i + 2) z := by
  obtain ⟨m, n, k, e, a1, a2, -⟩ := read_Bd hx hi (by omega)
  obtain ⟨m', n', k', e', b1, b2, -⟩ := read_Bd hy hi (by omega)
  show ∃ z, ((double.read x).sum (double.read y).opposite).map double.write = some z ∧ _
  rw [e, e']
  exact sum_Bd (s := 0) (t := 0) hi hi2 a1 a2 b1 b2

theorem mul_Bd {i j x y : Nat} (hx : Bd i x) (hy : Bd j y) (hi : 1 ≤ i) (hi2 : i ≤ 2046) (hj : 1 ≤ j) (hj2 : j ≤ 2046) (h1 : 1024 ≤ i + j) (h2 : i + j ≤ 3068) : ∃ z, floatBits .mul .f64 x y = some z ∧ Bd (i + j - 1022) z := by
  obtain ⟨m, n, k, e, a1, a2, -⟩ := read_Bd hx hi (by omega)
  obtain ⟨m', n', k', e', b1, b2, -⟩ := read_Bd hy hj (by omega)
  show ∃ z, ((double.read x).product (double.read y)).map double.write = some z ∧ _
  rw [e, e']
  refine ⟨_, rfl, ?_⟩
  have h3 : i + j - 1022 = (i + j - 1023) + 1 := by omega
  rw [h3]
  refine write_Bd (n := n + n') _ ?_ (by omega) (by omega) (by omega)
  rw [Nat.pow_add]
  exact Nat.mul_le_mul a1 b1

theorem div_Bd {i l x y : Nat} (hx : Bd i x) (hy : l * 4503599627370496 ≤ rg y) (hf : rg y < 9218868437227405312) (hi : 1 ≤ i) (hi2 : i ≤ 2046) (hl : 1 ≤ l) (h1 : l ≤ i + 1020) (h2 : i + 1026 ≤ l + 2046) : ∃ z, floatBits .quo .f64 x y = some z ∧ Bd (i + 1026 - l) z := by
  obtain ⟨m, n, k, e, a1, a2, a3⟩ := read_Bd hx hi (by omega)
  obtain ⟨m', k', e', b1, b2⟩ := read_lo hy hl hf
  show ∃ z, ((double.read x).quotient (52 + 2) (double.read y)).map double.write = some z ∧ _
  rw [e, e']
  have h0 : m' ≠ 0 := by omega
  show ∃ z, Option.map double.write (if m' = 0 then (if m = 0 then none else some (Datum.infinity (sg x ^^ sg y))) else some (Datum.number (sg x ^^ sg y) (2 * ((m <<< (52 + 2 + m'.log2 - m.log2)) / m') + ((m <<< (52 + 2 + m'.log2 - m.log2)) % m' != 0).toNat) (-1074 + (k : Int) - (-1074 + (k' : Int)) - ((52 + 2 + m'.log2 - m.log2 : Nat) : Int) - 1))) = some z ∧ _
  rw [if_neg h0]
  refine ⟨_, rfl, ?_⟩
  have h3 : i + 1026 - l = (i + 1025 - l) + 1 := by omega
  rw [h3]
  have hmo : n ≥ 52 := a3
  generalize hM : 52 + 2 + m'.log2 - m.log2 = more
  have hml : m.log2 ≤ n := by
    by_cases hz : m = 0
    · subst hz; exact Nat.zero_le _
    · have h5 : 2 ^ m.log2 < 2 ^ (n + 1) := Nat.lt_of_le_of_lt (Nat.le_trans (log_le hz) a1) (pow_lt (by omega))
      have h6 := (Nat.pow_lt_pow_iff_right (a := 2) (by decide)).1 h5
      omega
  have hq : m <<< more / m' ≤ 2 ^ (n + more - 52) := by
    rw [shl_]
    refine Nat.le_trans (Nat.div_le_div_left b1 (by decide)) ?_
    refine Nat.le_trans (Nat.div_le_div_right (Nat.mul_le_mul_right _ a1)) ?_
    rw [← Nat.pow_add]
    have h7 : 2 ^ (n + more) = 2 ^ (n + more - 52) * 4503599627370496 := by
      rw [show (4503599627370496 : Nat) = 2 ^ 52 from rfl, ← Nat.pow_add]; congr 1; omega
    rw [h7, Nat.mul_div_cancel _ (by decide)]
    exact Nat.le_refl _
  have hbt : ∀ b : Bool, b.toNat ≤ 1 := fun b => by cases b <;> decide
  refine write_Bd (n := n + more - 50) _ ?_ (by omega) (by omega) (by omega)
  have h8 : 2 ^ (n + more - 50) = 4 * 2 ^ (n + more - 52) := by
    rw [show n + more - 50 = 2 + (n + more - 52) by omega, Nat.pow_add]
  rw [h8]
  have h9 := hbt (m <<< more % m' != 0)
  have h10 := Nat.two_pow_pos (n + more - 52)
  omega

/-- A float and itself; a float's opposite. -/
theorem order_self {x : Nat} (h : rg x < 9218868437227405312) : double.order x x = some .eq := by
  obtain ⟨m, k, e, -⟩ := read_fin h
  unfold Format.order
  rw [e]
  show some (compare _ _) = _
  rw [Int.compare_eq_eq.2 rfl]
end Go.Proofs.Yteaghcchalfgmaa.Nm
