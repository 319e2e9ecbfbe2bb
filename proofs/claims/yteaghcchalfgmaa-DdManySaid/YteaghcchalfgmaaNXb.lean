/- Floats in their order; which pairs may be reckoned with. Plain numbers: no program. -/
import Derived.Test.YteaghcchalfgmaaNXa
namespace Go.Proofs.Yteaghcchalfgmaa.Nm
open Ieee
set_option linter.unusedVariables false
set_option maxRecDepth 10000

/-- The word as a whole number that rises with the float. -/
def Ky (x : Nat) : Int := if sg x = true then -(rg x : Int) else (rg x : Int)

theorem read_inf {x : Nat} (h : rg x = 9218868437227405312) : double.read x = .infinity (sg x) := by
  unfold Format.read
  rw [sw_, bn_, ir_, lp_]
  show (if rg x < 4503599627370496 then _ else if rg x < 9218868437227405312 then _ else if rg x = 9218868437227405312 then Datum.infinity (sg x) else _) = _
  rw [if_neg (by omega), if_neg (by omega), if_pos h]

theorem read_nan {x : Nat} (h : 9218868437227405312 < rg x) : ∃ s f, double.read x = .nan s f := by
  unfold Format.read
  rw [sw_, bn_, ir_, lp_]
  show ∃ s f, (if rg x < 4503599627370496 then _ else if rg x < 9218868437227405312 then _ else if rg x = 9218868437227405312 then _ else Datum.nan (sg x) (rg x - 9218868437227405312)) = _
  rw [if_neg (by omega), if_neg (by omega), if_neg (by omega)]
  exact ⟨_, _, rfl⟩

theorem order_nan_l {x y : Nat} (h : 9218868437227405312 < rg x) : double.order x y = none := by
  obtain ⟨s, f, e⟩ := read_nan h
  unfold Format.order; rw [e]; rfl
theorem order_nan_r {x y : Nat} (h : 9218868437227405312 < rg y) : double.order x y = none := by
  obtain ⟨s, f, e⟩ := read_nan h
  unfold Format.order; rw [e]; cases double.read x <;> rfl

theorem cmp_congr {a b c d : Int} (h1 : a < b ↔ c < d) (h2 : a = b ↔ c = d) : compare a b = compare c d := by
  show compareOfLessAndEq a b = compareOfLessAndEq c d
  unfold compareOfLessAndEq
  by_cases q : a < b
  · rw [if_pos q, if_pos (h1.1 q)]
  · rw [if_neg q, if_neg (fun e => q (h1.2 e))]
    by_cases q2 : a = b
    · rw [if_pos q2, if_pos (h2.1 q2)]
    · rw [if_neg q2, if_neg (fun e => q2 (h2.2 e))]

/-- what read_fin says of m and k. -/
def Parts (x m k : Nat) : Prop := (rg x < 4503599627370496 ∧ m = rg x ∧ k = 0) ∨ (4503599627370496 ≤ rg x ∧ m = 4503599627370496 + rg x % 4503599627370496 ∧ k = rg x / 4503599627370496 - 1)

theorem parts_k {x y m k m' k' : Nat} (h : Parts x m k) (h' : Parts y m' k') (hl : rg x ≤ rg y) : k ≤ k' := by
  rcases h with ⟨a, rfl, rfl⟩ | ⟨a, rfl, rfl⟩ <;> rcases h' with ⟨b, rfl, rfl⟩ | ⟨b, rfl, rfl⟩ <;> omega
theorem parts_lt {x y m k m' k' : Nat} (h : Parts x m k) (h' : Parts y m' k') (hl : rg x < rg y) : m * 2 ^ (k - min k k') < m' * 2 ^ (k' - min k k') := by
  have hk := parts_k h h' (Nat.le_of_lt hl)
  rw [Nat.min_eq_left hk, Nat.sub_self, Nat.pow_zero, Nat.mul_one]
  by_cases he : k = k'
  · rw [he, Nat.sub_self, Nat.pow_zero, Nat.mul_one]
    rcases h with ⟨a, rfl, rfl⟩ | ⟨a, rfl, rfl⟩ <;> rcases h' with ⟨b, rfl, rfl⟩ | ⟨b, rfl, rfl⟩ <;> omega
  · have h1 : m < 9007199254740992 := by rcases h with ⟨a, rfl, rfl⟩ | ⟨a, rfl, rfl⟩ <;> omega
    have h2 : 4503599627370496 ≤ m' := by rcases h' with ⟨b, rfl, rfl⟩ | ⟨b, rfl, rfl⟩ <;> omega
    have h3 : 2 ^ 1 ≤ 2 ^ (k' - k) := pow_le (by omega)
    have h4 : m' * 2 ^ 1 ≤ m' * 2 ^ (k' - k) := Nat.mul_le_mul_left _ h3
    omega
theorem parts_eq {x y m k m' k' : Nat} (h : Parts x m k) (h' : Parts y m' k') (hl : rg x = rg y) : m = m' ∧ k = k' := by
  rcases h with ⟨a, rfl, rfl⟩ | ⟨a, rfl, rfl⟩ <;> rcases h' with ⟨b, rfl, rfl⟩ | ⟨b, rfl, rfl⟩ <;> constructor <;> omega
theorem parts_zero {x m k : Nat} (h : Parts x m k) (u : Nat) : m * 2 ^ u = 0 ↔ rg x = 0 := by
  have := Nat.two_pow_pos u
  rw [Nat.mul_eq_zero]
  rcases h with ⟨a, rfl, rfl⟩ | ⟨a, rfl, rfl⟩ <;> omega

theorem signs {s t : Bool} {M N r q : Nat} (h1 : r < q → M < N) (h2 : q < r → N < M) (h3 : r = q → M = N) (h4 : M = 0 ↔ r = 0) (h5 : N = 0 ↔ q = 0) :
    compare (if s = true then -(M : Int) else (M : Int)) (if t = true then -(N : Int) else (N : Int)) = compare (if s = true then -(r : Int) else (r : Int)) (if t = true then -(q : Int) else (q : Int)) := by
  apply cmp_congr <;> cases s <;> cases t <;> simp only [Bool.false_eq_true, if_false, if_true] <;> omega

/-- The order of two that are no NaNs. -/
theorem order_key {x y : Nat} (hx : rg x ≤ 9218868437227405312) (hy : rg y ≤ 9218868437227405312) : double.order x y = some (compare (Ky x) (Ky y)) := by
  unfold Format.order
  by_cases qx : rg x = 9218868437227405312
  · rw [read_inf qx]
    by_cases qy : rg y = 9218868437227405312
    · rw [read_inf qy]
      show some (compare ((sg y).toNat) ((sg x).toNat)) = _
      unfold Ky; rw [qx, qy]
      cases sg x <;> cases sg y <;> rfl
    · obtain ⟨m, k, e, -⟩ := read_fin (x := y) (by omega)
      rw [e]
      show some (if sg x = true then Ordering.lt else .gt) = _
      unfold Ky; rw [qx]
      generalize rg y = v at *
      have h1 : ∀ a b : Int, a < b → compare a b = .lt := fun a b h => by show compareOfLessAndEq a b = _; unfold compareOfLessAndEq; rw [if_pos h]
      have h2 : ∀ a b : Int, b < a → compare a b = .gt := fun a b h => by show compareOfLessAndEq a b = _; unfold compareOfLessAndEq; rw [if_neg (by omega), if_neg (by omega)]
      cases sg x <;> cases sg y <;> simp only [Bool.false_eq_true, if_false, if_true]
      · rw [h2 _ _ (by omega)]
      · rw [h2 _ _ (by omega)]
      · rw [h1 _ _ (by omega)]
      · rw [h1 _ _ (by omega)]
  · obtain ⟨m, k, e, c⟩ := read_fin (x := x) (by omega)
    rw [e]
    by_cases qy : rg y = 9218868437227405312
    · rw [read_inf qy]
      show some (if sg y = true then Ordering.gt else .lt) = _
      unfold Ky; rw [qy]
      generalize rg x = v at *
      have h1 : ∀ a b : Int, a < b → compare a b = .lt := fun a b h => by show compareOfLessAndEq a b = _; unfold compareOfLessAndEq; rw [if_pos h]
      have h2 : ∀ a b : Int, b < a → compare a b = .gt := fun a b h => by show compareOfLessAndEq a b = _; unfold compareOfLessAndEq; rw [if_neg (by omega), if_neg (by omega)]
      cases sg x <;> cases sg y <;> simp only [Bool.false_eq_true, if_false, if_true]
      · rw [h1 _ _ (by omega)]
      · rw [h2 _ _ (by omega)]
      · rw [h1 _ _ (by omega)]
      · rw [h2 _ _ (by omega)]
    · obtain ⟨m', k', e', c'⟩ := read_fin (x := y) (by omega)
      rw [e']
      have hb : min (-1074 + (k : Int)) (-1074 + (k' : Int)) = -1074 + (min k k' : Nat) := by omega
      have e1 : (-1074 + (k : Int) - (-1074 + (min k k' : Nat))).toNat = k - min k k' := by omega
      have e2 : (-1074 + (k' : Int) - (-1074 + (min k k' : Nat))).toNat = k' - min k k' := by omega
      show some (compare (signed (sg x) m ((-1074 + (k : Int) - min (-1074 + (k : Int)) (-1074 + (k' : Int))).toNat)) (signed (sg y) m' ((-1074 + (k' : Int) - min (-1074 + (k : Int)) (-1074 + (k' : Int))).toNat))) = _
      rw [hb, e1, e2]
      unfold signed Ky
      rw [shl_, shl_]
      refine congrArg some (signs (fun h => parts_lt c c' h) (fun h => ?_) (fun h => ?_) (parts_zero c _) (parts_zero c' _))
      · have := parts_lt c' c h
        rw [Nat.min_comm] at this; exact this
      · obtain ⟨rfl, rfl⟩ := parts_eq c c' h; rfl

theorem cmp_eq {a b : Int} : (some (compare a b) == some Ordering.eq) = decide (a = b) := by
  show (some (compareOfLessAndEq a b) == _) = _
  unfold compareOfLessAndEq
  by_cases h : a < b
  · rw [if_pos h]; have : ¬ a = b := by omega
    rw [decide_eq_false this]; rfl
  · rw [if_neg h]; by_cases h2 : a = b
    · rw [if_pos h2, decide_eq_true h2]; rfl
    · rw [if_neg h2, decide_eq_false h2]; rfl
theorem cmp_lt {a b : Int} : (some (compare a b) == some Ordering.lt) = decide (a < b) := by
  show (some (compareOfLessAndEq a b) == _) = _
  unfold compareOfLessAndEq
  by_cases h : a < b
  · rw [if_pos h, decide_eq_true h]; rfl
  · rw [if_neg h, decide_eq_false h]; by_cases h2 : a = b
    · rw [if_pos h2]; rfl
    · rw [if_neg h2]; rfl
theorem cmp_gt {a b : Int} : (some (compare a b) == some Ordering.gt) = decide (b < a) := by
  show (some (compareOfLessAndEq a b) == _) = _
  unfold compareOfLessAndEq
  by_cases h : a < b
  · rw [if_pos h]; have : ¬ b < a := by omega
    rw [decide_eq_false this]; rfl
  · rw [if_neg h]; by_cases h2 : a = b
    · rw [if_pos h2]; have : ¬ b < a := by omega
      rw [decide_eq_false this]; rfl
    · rw [if_neg h2]; have : b < a := by omega
      rw [decide_eq_true this]; rfl

/-- What is added and comes to the first one is no greater than it. -/
theorem lost {h l : Nat} (h1 : 4503599627370496 ≤ rg h) (h2 : rg h ≤ 5958262307011166208) (hl : rg h < rg l) :
    ∀ z, floatBits .add .f64 h l = some z → (double.order z h == some .eq) = false := by
  intro z hz
  obtain ⟨m, k, e, c⟩ := read_fin (x := h) (by omega)
  replace hz : ((double.read h).sum (double.read l)).map double.write = some z := hz
  rw [e] at hz
  by_cases q1 : 9218868437227405312 < rg l
  · obtain ⟨s, f, e'⟩ := read_nan q1
    rw [e'] at hz; cases hz
  by_cases q2 : rg l = 9218868437227405312
  · rw [read_inf q2] at hz
    injection hz with hz
    replace hz : double.word (sg l) 9218868437227405312 = z := hz
    obtain ⟨w1, w2, w3⟩ := word_rg (sg l) (r := 9218868437227405312) (by decide)
    rw [hz] at w1 w2
    rw [order_key (by omega) (by omega), cmp_eq]
    refine decide_eq_false ?_
    unfold Ky; rw [w1]
    cases sg z <;> cases sg h <;> simp only [Bool.false_eq_true, if_false, if_true] <;> omega
  obtain ⟨m', k', e', c'⟩ := read_fin (x := l) (by omega)
  rw [e'] at hz
  injection hz with hz
  have hk := parts_k c c' (Nat.le_of_lt hl)
  have hlt := parts_lt c c' hl
  have hb : min (-1074 + (k : Int)) (-1074 + (k' : Int)) = -1074 + (k : Nat) := by omega
  rw [Nat.min_eq_left hk, Nat.sub_self, Nat.pow_zero, Nat.mul_one] at hlt
  replace hz : double.nearest (if signed (sg h) m ((-1074 + (k : Int) - min (-1074 + (k : Int)) (-1074 + (k' : Int))).toNat) + signed (sg l) m' ((-1074 + (k' : Int) - min (-1074 + (k : Int)) (-1074 + (k' : Int))).toNat) = 0 then _ else _) (signed (sg h) m ((-1074 + (k : Int) - min (-1074 + (k : Int)) (-1074 + (k' : Int))).toNat) + signed (sg l) m' ((-1074 + (k' : Int) - min (-1074 + (k : Int)) (-1074 + (k' : Int))).toNat)).natAbs (min (-1074 + (k : Int)) (-1074 + (k' : Int))) = z := hz
  have e1 : (-1074 + (k : Int) - (-1074 + (k : Nat))).toNat = 0 := by omega
  have e2 : (-1074 + (k' : Int) - (-1074 + (k : Nat))).toNat = k' - k := by omega
  rw [hb, e1, e2] at hz
  have hs1 : signed (sg h) m 0 = if sg h = true then -(m : Int) else m := by unfold signed; rw [shl_]; simp
  have hs2 : signed (sg l) m' (k' - k) = if sg l = true then -((m' * 2 ^ (k' - k) : Nat) : Int) else ((m' * 2 ^ (k' - k) : Nat) : Int) := by unfold signed; rw [shl_]
  rw [hs1, hs2] at hz
  have hm : 4503599627370496 ≤ m := by rcases c with ⟨a, rfl, rfl⟩ | ⟨a, rfl, rfl⟩ <;> omega
  generalize m' * 2 ^ (k' - k) = N at hlt hz
  by_cases hsg : sg h = sg l
  · rw [← hsg] at hz
    have hn : 2 ^ 53 ≤ ((if sg h = true then -(m : Int) else (m : Int)) + (if sg h = true then -(N : Int) else (N : Int))).natAbs := by
      have : (2 : Nat) ^ 53 = 9007199254740992 := rfl
      rw [this]
      cases sg h <;> simp only [Bool.false_eq_true, if_false, if_true] <;> omega
    have hj : rg h / 4503599627370496 + 1 ≤ 2046 := by omega
    have hkk : k = rg h / 4503599627370496 - 1 := by rcases c with ⟨a, rfl, rfl⟩ | ⟨a, rfl, rfl⟩ <;> omega
    obtain ⟨r, er, r1, r2⟩ := near_lo _ (j := rg h / 4503599627370496 + 1) (p := -1074 + (k : Int)) hn (by omega) (by omega) hj
    rw [er] at hz
    obtain ⟨w1, w2, w3⟩ := word_rg (if ((if sg h = true then -(m : Int) else (m : Int)) + (if sg h = true then -(N : Int) else (N : Int))) = 0 then (sg h && sg h) else decide (((if sg h = true then -(m : Int) else (m : Int)) + (if sg h = true then -(N : Int) else (N : Int))) < 0)) (r := r) (by omega)
    have hz' := hz
    have key : rg z = r := by rw [← hz]; exact (word_rg _ (r := r) (by omega)).1
    rw [order_key (by omega) (by omega), cmp_eq]
    refine decide_eq_false ?_
    unfold Ky; rw [key]
    cases sg z <;> cases sg h <;> simp only [Bool.false_eq_true, if_false, if_true] <;> omega
  · have hneg : ∃ b : Bool, b = sg l ∧ ∃ r, r ≤ 9218868437227405312 ∧ z = double.word b r := by
      have hsgn : ∀ T : Int, T ≠ 0 → ∀ p : Int, (∃ r, r ≤ 9218868437227405312 ∧ double.nearest (if T = 0 then (sg h && sg l) else decide (T < 0)) T.natAbs p = double.word (decide (T < 0)) r) := by
        intro T hT p
        rw [if_neg hT]
        unfold Format.nearest
        rw [if_neg (by omega)]
        exact ⟨_, Nat.min_le_right _ _, rfl⟩
      obtain ⟨r, r1, r2⟩ := hsgn ((if sg h = true then -(m : Int) else (m : Int)) + (if sg l = true then -(N : Int) else (N : Int))) (by
        cases sg h <;> cases sg l <;> simp only [Bool.false_eq_true, if_false, if_true] <;> omega) (-1074 + (k : Int))
      refine ⟨_, ?_, r, r1, hz.symm.trans r2⟩
      cases hq : sg h <;> cases hq2 : sg l <;> simp only [Bool.false_eq_true, if_false, if_true] <;> (first | (exact absurd (hq.trans hq2.symm) hsg) | (exact decide_eq_true (by omega)) | (exact decide_eq_false (by omega)))
    obtain ⟨b, hb1, r, r1, hzz⟩ := hneg
    obtain ⟨w1, w2, w3⟩ := word_rg b (r := r) (by omega)
    rw [← hzz] at w1 w2
    rw [order_key (by omega) (by omega), cmp_eq]
    refine decide_eq_false ?_
    unfold Ky; rw [w1, w2, hb1]
    intro q
    cases hq : sg h <;> cases hq2 : sg l <;> rw [hq, hq2] at q <;> simp only [Bool.false_eq_true, if_false, if_true] at q <;> (first | (exact absurd (hq.trans hq2.symm) hsg) | omega)
end Go.Proofs.Yteaghcchalfgmaa.Nm
