/- What the printed functions of the reference of package bits come to. -/
import Derived.Test.YtcigeggdapjijaaFns
namespace Go.Proofs.Ytcigeggdapjijaa.Pure
open Go.RowKit Go.Proofs.Ytcigeggdapjijaa.PAll Go.Proofs.YtcigeggdapjijaaW.PrintWords Go.Proofs.YtcigeggdapjijaaW.PrintLast Go.Proofs.YtcigeggdapjijaaW.PrintMore
set_option linter.unusedVariables false
set_option linter.unusedSimpArgs false

theorem rnumber_eq {x : Int} (hx : W64 x) : ulpref01_Number.f x = some (decide (isNum x)) := by
  unfold ulpref01_Number.f; rw [tmodE hx.1]; rfl
theorem rfinite_eq {x : Int} (hx : W64 x) : ulpref01_Finite.f x = some (decide (isFin x)) := by
  unfold ulpref01_Finite.f; rw [tmodE hx.1]; rfl
theorem rsplit_eq {x : Int} (hx : W64 x) : ulpref01_Split.f x = some (decide (9223372036854775808 ≤ x), ex x, fr x) := by
  have h0 := hx.1; have h1 := hx.2
  unfold ulpref01_Split.f ex fr; rw [tmodE hx.1, tdivE hx.1, wrapU (by omega) (by omega), tmodE (by omega), wrapS (by omega) (by omega)]
theorem rlast_eq {x : Int} (hx : W64 x) : ulpref01_Last.f x = some (last x) := by
  have b := ex_bd hx
  unfold ulpref01_Last.f last; rw [rfinite_eq hx, rsplit_eq hx]; simp only [Option.bind_some]
  by_cases h : isFin x
  · simp only [h, decide_true, if_true]; unfold mx
    rw [wrapS (by split <;> omega) (by split <;> omega)]
    split <;> split <;> first | rfl | omega
  · simp [h]
theorem rplace_eq {x : Int} (hx : W64 x) : ulpref01_place.f x = some (decide (x > 9223372036854775808), am x) := by
  unfold ulpref01_place.f am; rw [tmodE hx.1]
theorem rless_eq {k : Nat} {x y : Int} (hk : 2 ≤ k) (hx : W64 x) (hy : W64 y) : ulpref01_Less.f k x y = some (decide (isNum x ∧ isNum y ∧ pl x < pl y)) := by
  obtain ⟨k, rfl⟩ : ∃ m, k = m + 2 := ⟨k - 2, by omega⟩
  have h0 := hx.1; have h1 := hx.2; have h2 := hy.1; have h3 := hy.2
  unfold ulpref01_Less.f; rw [rnumber_eq hx, rnumber_eq hy]; simp only [Option.bind_some, ulpref01_Less.j0, ulpref01_Less.j1]
  rw [rplace_eq hx, rplace_eq hy]; simp only [Option.bind_some]
  by_cases a : isNum x
  · by_cases b : isNum y
    · simp only [a, b, decide_true, Bool.not_true, if_true, if_false, Bool.false_eq_true, true_and]
      unfold pl am
      by_cases c : x > 9223372036854775808 <;> by_cases d : y > 9223372036854775808 <;> simp only [c, d, decide_true, decide_false, if_true, if_false, Bool.false_eq_true, bne_self_eq_false, Bool.true_bne, Bool.false_bne, Bool.not_false, Bool.not_true] <;> congr 1
      all_goals (first | (rw [Bool.eq_iff_iff]; simp; (repeat' split) <;> omega) | (symm; simp; (repeat' split) <;> omega))
    · simp [a, b]
  · simp [a]
theorem rorder_eq {k : Nat} {x y : Int} (hk : 1 ≤ k) (hx : W64 x) (hy : W64 y) : ulpref01_Order.f k x y = some (ord x y) := by
  obtain ⟨k, rfl⟩ : ∃ m, k = m + 1 := ⟨k - 1, by omega⟩
  unfold ulpref01_Order.f ord; simp only [ulpref01_Order.j0]
  by_cases a : x = y
  · simp [a]
  · rw [if_neg a, if_neg a]
    by_cases b : x ≥ 9223372036854775808
    · rw [if_pos b, if_pos b]
      by_cases c : y ≥ 9223372036854775808
      · simp only [c, decide_true, if_true]; split <;> rfl
      · simp [c, b]
    · rw [if_neg b, if_neg b, if_neg (by decide), if_neg b]
      by_cases c : y ≥ 9223372036854775808
      · rw [if_pos c, if_pos c]
      · rw [if_neg c, if_neg c]; split <;> rfl
theorem rparts_eq {x : Int} (hx : W64 x) : ulpref01_Parts.f x = some (mant x, expo x) := by
  have b := ex_bd hx; have c := fr_bd hx
  unfold ulpref01_Parts.f mant expo; rw [rsplit_eq hx]; simp only [Option.bind_some]
  by_cases e : ex x = 0
  · rw [if_pos e, if_pos e, if_pos e]
  · rw [if_neg e, if_neg e, if_neg e, wrapU (by omega) (by omega), wrapS (by omega) (by omega)]
theorem rwhole_loop (d : Nat) : ∀ (k : Nat) (m e : Int), 0 ≤ m → m < 9007199254740992 → -1074 ≤ e → e ≤ 2000 → (-e).toNat = d → d < k →
    ulpref01_Whole.l0 k m e = some (decide (m = 0 ∨ e ≥ 0 ∨ m % 2 ^ (-e).toNat = 0)) := by
  induction d with
  | zero =>
    intro k m e h0 h1 h2 h3 hd hk
    obtain ⟨k, rfl⟩ : ∃ m, k = m + 1 := ⟨k - 1, by omega⟩
    simp only [ulpref01_Whole.l0]; rw [if_neg (by omega)]
    have : e ≥ 0 := by omega
    split <;> simp [*]
  | succ d ih =>
    intro k m e h0 h1 h2 h3 hd hk
    obtain ⟨k, rfl⟩ : ∃ m, k = m + 1 := ⟨k - 1, by omega⟩
    have he : e < 0 := by omega
    simp only [ulpref01_Whole.l0]; rw [if_pos he]
    have hp : (2 : Int) ^ (-e).toNat = 2 * 2 ^ d := by rw [hd, Int.pow_succ]; omega
    have hpp := pow_pos d
    by_cases hm : m > 0
    · rw [if_pos hm, tmodE h0, tdivE h0]
      by_cases h : m % 2 = 0
      · rw [if_pos h, wrapU (by omega) (by omega), wrapS (by omega) (by omega), ih k (m / 2) (e + 1) (by omega) (by omega) (by omega) (by omega) (by omega) (by omega)]
        have e1 : (-(e + 1)).toNat = d := by omega
        rw [e1, hp]
        obtain ⟨q, hq⟩ : ∃ q, m = 2 * q := ⟨m / 2, by omega⟩
        have e2 : m % (2 * 2 ^ d) = 2 * (m / 2 % 2 ^ d) := by
          rw [hq, Int.mul_emod_mul_of_pos _ _ (by decide), Int.mul_ediv_cancel_left _ (by decide)]
        rw [e2]
        congr 1; rw [Bool.eq_iff_iff]; simp
        by_cases he1 : e = -1
        · have hd0 : d = 0 := by omega
          subst hd0; simp
        · generalize m / 2 % 2 ^ d = z
          omega
      · rw [if_neg h, if_neg (by omega)]
        have e3 : m % (2 * 2 ^ d) % 2 = m % 2 := Int.emod_emod_of_dvd m ⟨_, rfl⟩
        rw [hp]
        congr 1; rw [Bool.eq_iff_iff]; simp; omega
    · rw [if_neg hm, if_pos (by omega)]; have : m = 0 := by omega
      simp [this]
theorem rwhole_eq {k : Nat} {x : Int} (hk : 1100 ≤ k) (hx : W64 x) : ulpref01_Whole.f k x = some (whole x) := by
  unfold ulpref01_Whole.f whole; rw [rfinite_eq hx]; simp only [Option.bind_some]
  by_cases h : isFin x
  · have a := mant_bd hx; have b := expo_bd hx h
    rw [rparts_eq hx]; simp only [h, decide_true, if_true, Option.bind_some, true_and]
    rw [rwhole_loop _ k _ _ a.1 a.2 b.1 (by omega) rfl (by omega)]
  · simp [h]
theorem rodd_loop (d : Nat) : ∀ (k : Nat) (m e : Int), 0 ≤ m → m < 9007199254740992 → -1074 ≤ e → e ≤ 2000 → (-e).toNat = d → d < k →
    ulpref01_Odd.l0 k m e = some (decide (e ≤ 0 ∧ m / 2 ^ (-e).toNat % 2 = 1)) := by
  induction d with
  | zero =>
    intro k m e h0 h1 h2 h3 hd hk
    obtain ⟨k, rfl⟩ : ∃ m, k = m + 1 := ⟨k - 1, by omega⟩
    simp only [ulpref01_Odd.l0]; rw [if_neg (by omega), hd, tmodE h0]
    by_cases h : e = 0
    · simp [h]; rw [Bool.eq_iff_iff]; simp
    · rw [if_neg h]; simp; omega
  | succ d ih =>
    intro k m e h0 h1 h2 h3 hd hk
    obtain ⟨k, rfl⟩ : ∃ m, k = m + 1 := ⟨k - 1, by omega⟩
    have he : e < 0 := by omega
    simp only [ulpref01_Odd.l0]
    rw [if_pos he, tdivE h0, wrapU (by omega) (by omega), wrapS (by omega) (by omega), ih k (m / 2) (e + 1) (by omega) (by omega) (by omega) (by omega) (by omega) (by omega)]
    have e1 : (-(e + 1)).toNat = d := by omega
    have e2 : m / 2 / 2 ^ d = m / 2 ^ (d + 1) := by
      rw [Int.pow_succ, Int.mul_comm, Int.ediv_ediv_of_nonneg (by decide)]
    rw [e1, hd, e2]
    congr 1; rw [Bool.eq_iff_iff]; simp; omega
theorem rodd_eq {k : Nat} {x : Int} (hk : 1100 ≤ k) (hx : W64 x) : ulpref01_Odd.f k x = some (odd x) := by
  unfold ulpref01_Odd.f odd; rw [rwhole_eq hk hx]; simp only [Option.bind_some]
  by_cases w : whole x = true
  · have h : isFin x := by unfold whole at w; exact (of_decide_eq_true w).1
    have a := mant_bd hx; have b := expo_bd hx h
    rw [rparts_eq hx]; simp only [w, if_true, Option.bind_some, Bool.true_and]
    rw [rodd_loop _ k _ _ a.1 a.2 b.1 (by omega) rfl (by omega)]
  · simp [w]
theorem rneg_eq {x : Int} (hx : W64 x) : ulpref01_Neg.f x = some (ng x) := by
  have h0 := hx.1; have h1 := hx.2
  unfold ulpref01_Neg.f ng
  by_cases h : x < 9223372036854775808
  · rw [if_neg (by omega), if_pos h, wrapU (by omega) (by omega)]
  · rw [if_pos (by omega), if_neg h, wrapU (by omega) (by omega)]
theorem rabs_eq {x : Int} (hx : W64 x) : ulpref01_Abs.f x = some (am x) := by
  unfold ulpref01_Abs.f am; rw [tmodE hx.1]
theorem rup_eq {k : Nat} {x : Int} (hk : 1 ≤ k) (hx : W64 x) : ulpref01_Up.f k x = some (up x) := by
  obtain ⟨k, rfl⟩ : ∃ m, k = m + 1 := ⟨k - 1, by omega⟩
  have h0 := hx.1; have h1 := hx.2
  unfold ulpref01_Up.f up; rw [rnumber_eq hx]; simp only [Option.bind_some, ulpref01_Up.j0]
  by_cases h : isNum x
  · have h' : x % 9223372036854775808 ≤ 9218868437227405312 := h
    simp only [h, decide_true, if_true]
    by_cases h2 : x = 9218868437227405312
    · simp [h2]
    · rw [if_neg (by simpa using h2), if_neg h2, tmodE h0]
      by_cases h3 : x % 9223372036854775808 = 0
      · rw [if_pos h3, if_pos h3]
      · rw [if_neg h3, if_neg h3]
        by_cases h4 : x < 9223372036854775808
        · rw [if_neg (by omega), if_pos h4, wrapU (by omega) (by omega)]
        · rw [if_pos (by omega), if_neg h4, wrapU (by omega) (by omega)]
  · simp [h]
theorem ng_w {x : Int} (hx : W64 x) : W64 (ng x) := by
  have h0 := hx.1; have h1 := hx.2
  unfold ng W64; split <;> omega
theorem up_w {x : Int} (hx : W64 x) : W64 (up x) := by
  have h0 := hx.1; have h1 := hx.2
  unfold up W64
  by_cases h : isNum x
  · have h' : x % 9223372036854775808 ≤ 9218868437227405312 := h
    rw [if_pos h]; (repeat' split) <;> omega
  · rw [if_neg h]; omega
theorem rdown_eq {k : Nat} {x : Int} (hk : 1 ≤ k) (hx : W64 x) : ulpref01_Down.f k x = some (down x) := by
  have h0 := hx.1; have h1 := hx.2
  unfold ulpref01_Down.f; rw [rnumber_eq hx, rneg_eq hx]; simp only [Option.bind_some]
  rw [rup_eq hk (ng_w hx)]; simp only [Option.bind_some]; rw [rneg_eq (up_w (ng_w hx))]; simp only [Option.bind_some]
  unfold down
  by_cases h : isNum x
  · have h' : x % 9223372036854775808 ≤ 9218868437227405312 := h
    rw [if_pos h, if_pos (by simpa using h)]
    have hn : isNum (ng x) := by unfold isNum ng; split <;> omega
    congr 1
    unfold up; rw [if_pos hn]
    unfold ng
    by_cases c : x < 9223372036854775808 <;> simp only [c, if_true, if_false] <;> (repeat' split) <;> omega
  · rw [if_neg h, if_neg (by simpa using h)]
theorem rsteps_eq {k : Nat} {x y : Int} (hk : 3 ≤ k) (hx : W64 x) (hy : W64 y) : ulpref01_Steps.f k x y = some (steps x y) := by
  obtain ⟨k, rfl⟩ : ∃ m, k = m + 2 := ⟨k - 2, by omega⟩
  have h0 := hx.1; have h1 := hx.2; have h2 := hy.1; have h3 := hy.2
  unfold ulpref01_Steps.f steps; rw [rnumber_eq hx, rnumber_eq hy]; simp only [Option.bind_some, ulpref01_Steps.j0]
  by_cases a : isNum x
  · by_cases b : isNum y
    · have a' : x % 9223372036854775808 ≤ 9218868437227405312 := a
      have b' : y % 9223372036854775808 ≤ 9218868437227405312 := b
      rw [rless_eq (by omega) hy hx, rplace_eq hx, rplace_eq hy]
      simp only [a, b, decide_true, Bool.not_true, if_true, if_false, Bool.false_eq_true, true_and, and_self, Option.bind_some, ulpref01_Steps.j1, decide_eq_true_eq]
      by_cases c : pl y < pl x
      · rw [if_pos c, if_pos c]
      · rw [if_neg c, if_neg c]
        revert c; unfold pl am
        by_cases d : x > 9223372036854775808 <;> by_cases e : y > 9223372036854775808 <;> simp only [d, e, if_true, if_false, IntKind.wrap_u64] <;> intro c <;> congr 2 <;> revert c <;> (repeat' split) <;> intro c <;> omega
    · simp [a, b]
  · simp [a]
end Go.Proofs.Ytcigeggdapjijaa.Pure
