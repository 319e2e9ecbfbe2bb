/- Plain part. -/
import Derived.Test.YtdbhednhhmbooaaDoorXNatBetweenN1
import Derived.Test.YtdbhednhhmbooaaDoorXNatBetweenP0
import Derived.Test.YtdbhednhhmbooaaDoorXNatBetweenP1
import Derived.Test.YtdbhednhhmbooaaDoorXNatBetweenP11
import Derived.Test.YtdbhednhhmbooaaDoorXNatBetweenP10
import Derived.Test.YtdbhednhhmbooaaDoorXNatBetweenP2
import Derived.Test.YtdbhednhhmbooaaDoorXNatBetweenP3
import Derived.Test.YtdbhednhhmbooaaDoorXNatBetweenP5
import Derived.Test.YtdbhednhhmbooaaDoorXNatBetweenP8
import Derived.Test.YtdbhednhhmbooaaDoorXNatBetweenP9
import Derived.Test.YtdbhednhhmbooaaDoorXNatBetweenP13
import Derived.Laws.StructEq
namespace Go.Proofs.YtdbhednhhmbooaaDoor.Nf
open Go.RowKit Go.Proofs.YtdbhednhhmbooaaDoor.PAll Go.Proofs.YtdbhednhhmbooaaDoorW.PrintWords Go.Proofs.YtdbhednhhmbooaaDoorW.PrintLast Go.Proofs.YtdbhednhhmbooaaDoorW.PrintMore Go.Proofs.YtdbhednhhmbooaaDoor.Nm
set_option linter.unusedVariables false
set_option linter.unusedSimpArgs false
theorem low_form (v : Nat) (h : v ≠ 0) : ∃ t m, v = 2 ^ t * (2 * m + 1) := by
  induction v using Nat.strongRecOn with
  | _ v ih =>
    by_cases g : v % 2 = 1
    · exact ⟨0, v / 2, by rw [Nat.pow_zero]; omega⟩
    · obtain ⟨t, m, e⟩ := ih (v / 2) (by omega) (by omega)
      exact ⟨t + 1, m, by rw [Nat.pow_succ, Nat.mul_right_comm, ← e]; omega⟩
theorem low_bit (t m n : Nat) (h : n ≤ t) : (2 ^ t * (2 * m + 1)) / 2 ^ n % 2 = if n = t then 1 else 0 := by
  have hp : 0 < 2 ^ n := Nat.pow_pos (by decide)
  obtain ⟨d, rfl⟩ : ∃ d, t = n + d := ⟨t - n, by omega⟩
  rw [Nat.pow_add, Nat.mul_assoc, Nat.mul_div_cancel_left _ hp]
  by_cases g : d = 0
  · subst g; rw [if_pos (by omega), Nat.pow_zero]; omega
  · rw [if_neg (by omega)]
    obtain ⟨e, rfl⟩ : ∃ e, d = e + 1 := ⟨d - 1, by omega⟩
    rw [Nat.pow_succ, Nat.mul_right_comm]; omega
theorem low_unique {t m s n : Nat} (h : 2 ^ t * (2 * m + 1) = 2 ^ s * (2 * n + 1)) : t = s := by
  rcases Nat.lt_trichotomy t s with g | g | g
  · have a := low_bit t m t (Nat.le_refl _)
    have b := low_bit s n t (Nat.le_of_lt g)
    rw [h, b, if_neg (Nat.ne_of_lt g), if_pos rfl] at a; omega
  · exact g
  · have a := low_bit s n s (Nat.le_refl _)
    have b := low_bit t m s (Nat.le_of_lt g)
    rw [← h, b, if_neg (Nat.ne_of_lt g), if_pos rfl] at a; omega
theorem low_and (t a : Nat) (h : 2 ^ t * (2 * a + 1) < 2 ^ 64) : 2 ^ t * (2 * a + 1) &&& (2 ^ 64 - 2 ^ t * (2 * a + 1)) = 2 ^ t := by
  have hp : 0 < 2 ^ t := Nat.pow_pos (by decide)
  obtain ⟨c, hc⟩ : ∃ c, c + 1 = 2 ^ t * (2 * a + 1) := ⟨2 ^ t * (2 * a + 1) - 1, by have : 0 < 2 ^ t * (2 * a + 1) := Nat.mul_pos hp (by omega); omega⟩
  have hc2 : c = 2 ^ t * (2 * a) + (2 ^ t - 1) := by rw [Nat.mul_add] at hc; omega
  have ht : t < 64 := (Nat.pow_lt_pow_iff_right (a := 2) (by decide)).1 (Nat.lt_of_le_of_lt (Nat.le_mul_of_pos_right _ (by omega)) h)
  apply Nat.eq_of_testBit_eq
  intro i
  rw [Nat.testBit_and, Nat.testBit_two_pow, ← hc, Nat.testBit_two_pow_sub_succ (by omega), hc, hc2, Nat.testBit_two_pow_mul_add _ (by omega)]
  have e0 : 2 ^ t * (2 * a + 1) = 2 ^ t * (2 * a + 1) + 0 := rfl
  rw [e0, Nat.testBit_two_pow_mul_add _ hp]
  by_cases h1 : i < t
  · have : t ≠ i := by omega
    simp [h1, this]
  · rw [if_neg h1, if_neg h1]
    by_cases h2 : t = i
    · subst h2
      rw [Nat.sub_self]; simp [ht]
    · obtain ⟨j, hj⟩ : ∃ j, i - t = j + 1 := ⟨i - t - 1, by omega⟩
      rw [hj, Nat.testBit_succ, Nat.testBit_succ]
      have e1 : (2 * a + 1) / 2 = a := by omega
      have e2 : 2 * a / 2 = a := by omega
      rw [e1, e2]
      cases a.testBit j <;> simp [h2]
theorem tz_table : ∀ t : Fin 64, tzTab.getD (2 ^ t.val * 285870213051353865 % 18446744073709551616 / 288230376151711744) 0 = (t.val : Int) ∧ 2 ^ t.val * 285870213051353865 % 18446744073709551616 / 288230376151711744 < 64 := by decide +kernel
theorem Trail_eq {w t m : Nat} (hw : w = 2 ^ t * (2 * m + 1)) (h : w < 18446744073709551616) : bits_TrailingZeros64.f w = some (t : Int) ∧ t < 64 := by
  have hp : 0 < 2 ^ t := Nat.pow_pos (by decide)
  have h0 : 0 < w := by rw [hw]; exact Nat.mul_pos hp (by omega)
  have h64 : 2 ^ t * (2 * m + 1) < 2 ^ 64 := by rw [← hw]; exact h
  have ht : t < 64 := (Nat.pow_lt_pow_iff_right (a := 2) (by decide)).1 (Nat.lt_of_le_of_lt (Nat.le_mul_of_pos_right _ (by omega)) h64)
  have ha := low_and t m h64
  rw [← hw] at ha
  obtain ⟨b1, b2⟩ := tz_table ⟨t, ht⟩
  have e1 : IntKind.u64.wrap (-(w : Int)) = ((18446744073709551616 - w : Nat) : Int) := by rw [IntKind.wrap_u64]; omega
  have e2 : bits BinOp.and IntKind.u64 (w : Int) ((18446744073709551616 - w : Nat) : Int) = ((2 ^ t : Nat) : Int) := by
    rw [u64_and_nat w _ h (by omega)]
    exact congrArg Nat.cast ha
  have e3 : tzI (w : Int) = ((2 ^ t * 285870213051353865 % 18446744073709551616 / 288230376151711744 : Nat) : Int) := by
    unfold tzI
    rw [e1, e2]
    generalize 2 ^ t = p
    rw [IntKind.wrap_u64]; omega
  refine ⟨?_, ht⟩
  unfold bits_TrailingZeros64.f
  dsimp only at b1 b2
  rw [if_neg (by omega), e3, if_pos (Int.natCast_nonneg _), if_pos (by omega), Int.toNat_natCast, b1]
/-- One bit of a list of words. -/
theorem bit_val {a : List Int} (ha : Ws a) (j s : Nat) (hs : s < 64) : val a / 2 ^ (64 * j + s) % 2 = (a.getD j 0).toNat / 2 ^ s % 2 := by
  have e : 2 ^ (64 * j + s) = 18446744073709551616 ^ j * 2 ^ s := by rw [Nat.pow_add, Nat.pow_mul]
  by_cases h : j < a.length
  · have ht := val_take_lt ha j
    obtain ⟨h1, _⟩ := shr_all (S := 2 ^ s) ht (val_take_drop a j (Nat.le_of_lt h))
    rw [e, h1, val_drop a j h]
    have hp : 0 < 2 ^ s := Nat.pow_pos (by decide)
    have e2 : (18446744073709551616 : Nat) = 2 ^ s * (2 * 2 ^ (63 - s)) := by
      have := pow_split (show s ≤ 64 by omega)
      have e3 : 64 - s = (63 - s) + 1 := by omega
      rw [e3, Nat.pow_succ, Nat.mul_comm _ 2] at this
      exact this.symm
    generalize (a.getD j 0).toNat = w
    generalize val (a.drop (j + 1)) = r
    have e4 : (w + 18446744073709551616 * r) / 2 ^ s = w / 2 ^ s + 2 * 2 ^ (63 - s) * r := by
      have : w + 18446744073709551616 * r = w + 2 ^ s * (2 * 2 ^ (63 - s) * r) := by rw [← Nat.mul_assoc, ← e2]
      rw [this, Nat.add_mul_div_left _ _ hp]
    rw [e4, Nat.mul_assoc]
    omega
  · rw [getD_ge a j (by omega), e]
    have : val a < 18446744073709551616 ^ j := Nat.lt_of_lt_of_le (val_lt ha) (Nat.pow_le_pow_right (by decide) (by omega))
    rw [← Nat.div_div_eq_div_mul, Nat.div_eq_of_lt this]; simp
theorem and1 {w : Nat} (hw : w < 18446744073709551616) : Go.bits .and .u64 (w : Int) 1 = ((w % 2 : Nat) : Int) := by
  have h := u64_and_nat w 1 hw (by decide)
  have e : w &&& 1 = w % 2 := Nat.and_two_pow_sub_one_eq_mod w 1
  rw [e] at h; exact h
theorem Bit_eq (a : List Int) (i : Int) (k : Nat) (ha : Ws a) (hi : i < 9223372036854775808) (na : a.length < 17592186044000) (hk : a.length < k) :
    nat_Bit.f k a i = some (if val a < big then (if i < 0 then (false, 2) else (decide (val a / 2 ^ i.toNat % 2 = 1), 0)) else (false, 3)) := by
  unfold nat_Bit.f
  rw [one_eq a k ha (by omega) (by omega), bind_s]
  by_cases h : val a < big
  · simp only [if_pos h]
    rw [if_pos trivial]
    by_cases g : i < 0
    · rw [if_pos g, if_pos g]
    · obtain ⟨n, rfl⟩ : ∃ n : Nat, i = (n : Int) := ⟨i.toNat, by omega⟩
      have hl := len_big h
      have e1 : wrap64 (Int.tdiv (n : Int) 64) = ((n / 64 : Nat) : Int) := by
        rw [Int.tdiv_eq_ediv_of_nonneg (by omega), wrapS (by omega) (by omega)]; omega
      have e2 : Int.tmod (n : Int) 64 = ((n % 64 : Nat) : Int) := by
        rw [Int.tmod_eq_emod_of_nonneg (by omega)]; omega
      have hs : n % 64 ≤ 64 := by omega
      have en : val (ofN (val a)) / 2 ^ n % 2 = ((ofN (val a)).getD (n / 64) 0).toNat / 2 ^ (n % 64) % 2 := by
        have := bit_val (ws_ofN (val a)) (n / 64) (n % 64) (by omega)
        rw [Nat.div_add_mod] at this; exact this
      rw [val_ofN] at en
      rw [if_neg g, if_neg g, Int.toNat_natCast, e1, e2, en]
      generalize hq : n / 64 = q at *
      by_cases c : q < (ofN (val a)).length
      · obtain ⟨p0, p1⟩ := ws_get (ws_ofN (val a)) q
        have ew := asNat p0
        have cc : ((q : Nat) : Int) < ((ofN (val a)).length : Int) := by omega
        rw [if_pos cc, if_pos (Int.natCast_nonneg _), if_pos (Int.natCast_nonneg _), rd_nat]
        generalize ((ofN (val a)).getD q 0).toNat = w at *
        have w1 : w < 18446744073709551616 := Int.ofNat_lt.1 (ew ▸ p1)
        rw [ew, shr_eq _ _ hs, and1 (Nat.lt_of_le_of_lt (Nat.div_le_self _ _) w1)]
        generalize w / 2 ^ (n % 64) % 2 = z
        congr 2
        rw [Bool.eq_iff_iff]; simp; omega
      · rw [if_neg (by omega), getD_ge _ _ (by omega)]
        simp
  · simp only [if_neg h]
    rw [if_neg (by decide)]
theorem Norm_eq (a : List Int) (k : Nat) (ha : Ws a) (na : a.length < 17592186044000) (hk : a.length < k) : nat_Norm.f k a = some (if val a < big then (ofN (val a), 0) else ([], 3)) := by
  unfold nat_Norm.f
  rw [one_eq a k ha (by omega) (by omega), bind_s]
  by_cases h : val a < big
  · have hl := len_big h
    have ho := own_eq (ofN (val a)) (by omega)
    simp only [if_pos h]
    rw [if_pos trivial, ho, bind_s]
  · simp only [if_neg h]
    rw [if_neg (by decide)]
theorem nOf_eq (w k : Nat) (hw : w < 18446744073709551616) (hk : 1 < k) : nat_Of.f k w = some (ofN w) := by
  unfold nat_Of.f
  have : val [(w : Int)] = w := by simp [val]
  have l1 : (ofN w).length ≤ 1 := (ofN_len w 1).2 hw
  have ho := own_eq (ofN w) (by omega)
  rw [norm_eq 1 _ k rfl (ws_cons.2 ⟨by omega, ws_nil⟩) (by decide) hk, bind_s, this, ho, bind_s]
theorem len_eq (v k : Nat) (hl : (ofN v).length ≤ 1024) (hk : 1 < k) : nat_number_len.f k (ofN v) = some ((bl v : Nat) : Int) := by
  unfold nat_number_len.f
  by_cases h : v = 0
  · have := ofN_zero_iff.2 h
    rw [if_pos (by omega), h, bl_zero]; rfl
  · obtain ⟨m, w, h1, h2, h3, h4, h5⟩ := len_bl h
    have hb := bl_word h4
    have e1 : wrap64 (((ofN v).length : Int) - 1) = (m : Int) := by rw [wrapS (by omega) (by omega)]; omega
    have c0 : ¬ ((ofN v).length : Int) = 0 := by clear e1; omega
    have c1 : (m : Int) < ((ofN v).length : Int) := by clear e1; omega
    have e2 : wrap64 (64 * (m : Int)) = ((64 * m : Nat) : Int) := by clear e1; rw [wrapS (by omega) (by omega)]; omega
    have e3 : wrap64 (((64 * m : Nat) : Int) + ((bl w : Nat) : Int)) = ((64 * m + bl w : Nat) : Int) := by clear e1 e2; rw [wrapS (by omega) (by omega)]; omega
    rw [if_neg c0, e1, if_pos (Int.natCast_nonneg _), if_pos c1, rd_nat, h5, Len64_eq k w h4 hk, bind_s, e2, e3, h2]
theorem Len_eq (a : List Int) (k : Nat) (ha : Ws a) (na : a.length < 17592186044000) (hk : a.length + 1 < k) : nat_Len.f k a = some (if val a < big then (((bl (val a) : Nat) : Int), 0) else (0, 3)) := by
  unfold nat_Len.f
  rw [one_eq a k ha (by omega) (by omega), bind_s]
  by_cases h : val a < big
  · simp only [if_pos h]
    rw [len_eq _ k (len_big h) (by omega), bind_s]
  · simp only [if_neg h]
    have := len_eq 0 k (by rw [ofN_zero]; decide) (by omega)
    rw [ofN_zero, bl_zero] at this
    rw [this, bind_s]; rfl
/-- How many bits 0 a number ends with. -/
theorem low_loop (v : Nat) (e : Int) (hl : (ofN v).length ≤ 1024) (s : Nat) : ∀ (i k : Nat), (ofN v).length - i = s → i ≤ (ofN v).length → s < k → val ((ofN v).take i) = 0 →
    (v = 0 → nat_Low.l0 k e (ofN v) (ofN v).length i = some (0, e)) ∧ (∀ t m : Nat, v = 2 ^ t * (2 * m + 1) → nat_Low.l0 k e (ofN v) (ofN v).length i = some ((t : Int), e)) := by
  induction s with
  | zero =>
    intro i k hs hi hk hz
    obtain ⟨k, rfl⟩ : ∃ z, k = z + 1 := ⟨k - 1, by omega⟩
    obtain rfl : i = (ofN v).length := by omega
    rw [val_take_ge _ _ (Nat.le_refl _), val_ofN] at hz
    have g : nat_Low.l0 (k + 1) e (ofN v) (ofN v).length ((ofN v).length : Nat) = some (0, e) := by
      simp only [nat_Low.l0]; rw [if_neg (by omega)]
    refine ⟨fun _ => g, fun t m ht => ?_⟩
    have : 0 < 2 ^ t * (2 * m + 1) := Nat.mul_pos (Nat.pow_pos (by decide)) (by omega)
    omega
  | succ s ih =>
    intro i k hs hi hk hz
    obtain ⟨k, rfl⟩ : ∃ z, k = z + 1 := ⟨k - 1, by omega⟩
    have i1 : (ofN v).length - (i + 1) = s := by omega
    have i2 : i + 1 ≤ (ofN v).length := by omega
    have i3 : s < k := by omega
    have g1 : (i : Int) < ((ofN v).length : Int) := by omega
    have b3 : i < 4611686018427387904 := by omega
    have i5 : i < (ofN v).length := by omega
    obtain ⟨p0, p1⟩ := ws_get (ws_ofN v) i
    have ew := asNat p0
    have ts := val_take_succ (ofN v) i i5
    have td := val_take_drop (ofN v) i (Nat.le_of_lt i5)
    have vd := val_drop (ofN v) i i5
    rw [hz] at ts td
    rw [val_ofN, vd] at td
    simp only [nat_Low.l0]
    rw [if_pos g1, if_pos (Int.natCast_nonneg _), if_pos g1, rd_nat]
    generalize hwn : ((ofN v).getD i 0).toNat = w at *
    by_cases h : w = 0
    · have := ih (i + 1) k i1 i2 i3 (by rw [ts, h]; simp)
      rw [if_pos (by rw [ew, h]; rfl), wrap_succ b3]
      exact this
    · have w1 : w < 18446744073709551616 := Int.ofNat_lt.1 (ew ▸ p1)
      obtain ⟨s', c, hc⟩ := low_form w h
      obtain ⟨tz, ts64⟩ := Trail_eq hc w1
      have e2 : wrap64 (64 * (i : Int)) = ((64 * i : Nat) : Int) := by rw [wrapS (by omega) (by omega)]; omega
      have e3 : wrap64 (((64 * i : Nat) : Int) + (s' : Int)) = ((64 * i + s' : Nat) : Int) := by clear e2; rw [wrapS (by omega) (by omega)]; omega
      have hw0 : ¬ (w : Int) = 0 := by clear e2 e3; omega
      rw [ew, if_neg hw0, tz, bind_s, e2, e3]
      clear e2 e3
      have hv : v = 2 ^ (64 * i + s') * (2 * (c + 2 ^ (63 - s') * val ((ofN v).drop (i + 1))) + 1) := by
        have eB : (18446744073709551616 : Nat) = 2 ^ s' * (2 * 2 ^ (63 - s')) := by
          have := pow_split (show s' ≤ 64 by omega)
          have e3 : 64 - s' = (63 - s') + 1 := by omega
          rw [e3, Nat.pow_succ, Nat.mul_comm _ 2] at this
          exact this.symm
        have eP : (18446744073709551616 : Nat) ^ i = 2 ^ (64 * i) := by rw [Nat.pow_mul]
        generalize val ((ofN v).drop (i + 1)) = R at *
        have e5 : w + 18446744073709551616 * R = 2 ^ s' * (2 * (c + 2 ^ (63 - s') * R) + 1) := by
          rw [eB, hc, Nat.mul_assoc, ← Nat.mul_add, Nat.mul_add 2 c, Nat.mul_assoc 2]
          congr 1; omega
        rw [Nat.zero_add, e5, eP, ← Nat.mul_assoc, ← Nat.pow_add] at td
        exact td
      refine ⟨fun z => ?_, fun t m ht => ?_⟩
      · have : 0 < 2 ^ (64 * i + s') * (2 * (c + 2 ^ (63 - s') * val ((ofN v).drop (i + 1))) + 1) := Nat.mul_pos (Nat.pow_pos (by decide)) (by omega)
        omega
      · have := low_unique (ht.symm.trans hv)
        rw [this]
theorem big_pos : 0 < big := by
  have h : ∀ m, 0 < 18446744073709551616 ^ m := pow_pos
  unfold big
  exact h 1024
theorem Low_eq (a : List Int) (k : Nat) (ha : Ws a) (na : a.length < 17592186044000) (hk : a.length + 2000 < k) :
    (¬ val a < big → nat_Low.f k a = some (0, 3)) ∧ (val a = 0 → nat_Low.f k a = some (0, 0)) ∧ (val a < big → ∀ t m : Nat, val a = 2 ^ t * (2 * m + 1) → nat_Low.f k a = some ((t : Int), 0)) := by
  unfold nat_Low.f
  rw [one_eq a k ha (by omega) (by omega), bind_s]
  refine ⟨fun h => ?_, fun h => ?_, fun h t m ht => ?_⟩
  · simp only [if_neg h]
    have := (low_loop 0 3 (by rw [ofN_zero]; decide) _ 0 k rfl (Nat.zero_le _) (by rw [ofN_zero]; simp; omega) (by simp [val])).1 rfl
    rw [ofN_zero] at this
    exact this
  · have hb : val a < big := by rw [h]; exact big_pos
    simp only [if_pos hb]
    have := (low_loop 0 0 (by rw [ofN_zero]; decide) _ 0 k rfl (Nat.zero_le _) (by rw [ofN_zero]; simp; omega) (by simp [val])).1 rfl
    rw [h]
    exact this
  · simp only [if_pos h]
    have hl := len_big h
    exact (low_loop (val a) 0 hl _ 0 k rfl (Nat.zero_le _) (by omega) (by simp [val])).2 t m ht
theorem low_lt {v t m : Nat} (h : v = 2 ^ t * (2 * m + 1)) : t < bl v := by
  have := bl_lt v
  refine (Nat.pow_lt_pow_iff_right (a := 2) (by decide)).1 (Nat.lt_of_le_of_lt ?_ this)
  rw [h]; exact Nat.le_mul_of_pos_right _ (by omega)
end Go.Proofs.YtdbhednhhmbooaaDoor.Nf

namespace Go.Proofs.YtdbhednhhmbooaaDoor.Nf
open Go.RowKit Go.Proofs.YtdbhednhhmbooaaDoor.PAll Go.Proofs.YtdbhednhhmbooaaDoorW.PrintWords Go.Proofs.YtdbhednhhmbooaaDoorW.PrintLast Go.Proofs.YtdbhednhhmbooaaDoorW.PrintMore Go.Proofs.YtdbhednhhmbooaaDoor.Nm
set_option linter.unusedVariables false
set_option linter.unusedSimpArgs false
theorem and1i {n : Nat} (hn : n < 9223372036854775808) : Go.bits .and .i64 (n : Int) 1 = ((n % 2 : Nat) : Int) := by
  have e : n &&& 1 = n % 2 := Nat.and_two_pow_sub_one_eq_mod n 1
  show IntKind.i64.wrap ((BitVec.ofInt 64 (n : Int) &&& BitVec.ofInt 64 ((1 : Nat) : Int)).toNat : Int) = _
  rw [BitVec.toNat_and, ofInt_u64 n (by omega), ofInt_u64 1 (by decide), e]
  have hb : n % 2 < 2 := Nat.mod_lt _ (by decide)
  obtain ⟨r, hr⟩ : ∃ r, r = n % 2 := ⟨_, rfl⟩
  rw [← hr] at hb ⊢
  rw [i64_w]
  exact wrapS (x := ((r : Nat) : Int)) (by omega) (by omega)
theorem ofN_one : ofN 1 = [1] := by
  rw [ofN_pos (by decide)]
  have : (1 : Nat) / 18446744073709551616 = 0 := by decide
  rw [this, ofN_zero]; rfl
theorem one_lt_big : 1 < big := (ofN_big 1).1 (by rw [ofN_one]; decide)
theorem len_mul {x y m n K : Nat} (hx : (ofN x).length ≤ m) (hy : (ofN y).length ≤ n) (hK : m + n = K) : (ofN (x * y)).length ≤ K := by
  subst hK
  rw [ofN_len] at hx hy ⊢
  rw [Nat.pow_add]; exact Nat.mul_lt_mul_of_lt_of_le hx (Nat.le_of_lt hy) (pow_pos n)
theorem mul_eq {x y m n : Nat} (k : Nat) (hx : (ofN x).length ≤ m) (hy : (ofN y).length ≤ n) (hm : m ≤ 4100) (hn : n ≤ 4100) (hk : m * (n + 2) + m + n + 10 < k) : nat_number_mul.f k (ofN x) (ofN y) = some (ofN (x * y)) := by
  have h1 : (ofN x).length * ((ofN y).length + 2) ≤ m * (n + 2) := Nat.mul_le_mul hx (by omega)
  have h := nmul_eq (ofN x) (ofN y) k (ws_ofN x) (ws_ofN y) (by omega) (by omega)
  rw [val_ofN, val_ofN] at h; exact h
theorem pow_half (b n : Nat) : b ^ n = (if n % 2 = 1 then b else 1) * (b * b) ^ (n / 2) := by
  have e : b * b = b ^ 2 := by rw [Nat.pow_succ, Nat.pow_one]
  rw [e, ← Nat.pow_mul]
  by_cases h : n % 2 = 1
  · rw [if_pos h, ← Nat.pow_succ']; congr 1; omega
  · rw [if_neg h, Nat.one_mul]; congr 1; omega
theorem pow_ge {b n : Nat} (hb : 1 ≤ b) (h : n ≠ 0) : b ≤ b ^ n := by
  obtain ⟨m, rfl⟩ : ∃ m, n = m + 1 := ⟨n - 1, by omega⟩
  rw [Nat.pow_succ]; exact Nat.le_mul_of_pos_left _ (Nat.pow_pos hb)
theorem pow_loop (n : Nat) : ∀ (k o b : Nat), n ≤ 65536 → 0 < o → o < big → 2 ≤ b → (ofN b).length ≤ 2048 → 3 * n + 3000000 < k → nat_Pow.l0 k (n : Int) (ofN o) (ofN b) = some (if o * b ^ n < big then (ofN (o * b ^ n), 0) else ([], 3)) := by
  induction n using Nat.strongRecOn with
  | _ n ih =>
    intro k o b hn ho hob hb hbl hk
    obtain ⟨k, rfl⟩ : ∃ m, k = m + 3 := ⟨k - 3, by omega⟩
    have hol := len_big hob
    rw [show k + 3 = (k + 2) + 1 from rfl]
    simp only [nat_Pow.l0]
    by_cases h0 : n = 0
    · subst h0
      rw [if_neg (by omega), answer_eq, bind_s, Nat.pow_zero, Nat.mul_one, if_pos hob]
    · rw [if_pos (by omega), and1i (by omega)]
      -- what the odd step leaves
      have step : ∀ o' : Nat, o' = o * (if n % 2 = 1 then b else 1) → nat_Pow.j1 (k + 2) (n : Int) (ofN o') (ofN b) = some (if o * b ^ n < big then (ofN (o * b ^ n), 0) else ([], 3)) := by
        intro o' e
        have tot : o * b ^ n = o' * (b * b) ^ (n / 2) := by rw [pow_half b n, e, Nat.mul_assoc]
        have hpos : 0 < (b * b) ^ (n / 2) := Nat.pow_pos (Nat.mul_pos (by omega) (by omega))
        have ho' : 0 < o' := by
          rw [e]; split
          · exact Nat.mul_pos ho (by omega)
          · omega
        have le1 : o' ≤ o * b ^ n := by rw [tot]; exact Nat.le_mul_of_pos_right _ hpos
        rw [show k + 2 = (k + 1) + 1 from rfl]
        simp only [nat_Pow.j1]
        rw [great_ofN, bind_s]
        by_cases h1 : o' < big
        · rw [if_neg (by simp [h1])]
          by_cases h2 : n = 1
          · subst h2
            rw [if_neg (by omega)]
            simp only [nat_Pow.j2]
            rw [if_neg (by decide), if_neg (by omega)]
            have e0 : ((1 : Nat) : Int) / 2 = ((0 : Nat) : Int) := by decide
            have t := ih 0 (by omega) k o' b (by omega) ho' h1 hb hbl (by omega)
            rw [e0, t, tot]
            simp
          · rw [if_pos (by omega), great_ofN, bind_s]
            simp only [nat_Pow.j2]
            by_cases h3 : b < big
            · rw [if_neg (by simp [h3]), if_pos (by omega)]
              have lb := len_big h3
              rw [mul_eq k lb lb (by omega) (by omega) (by omega), bind_s]
              have e2 : (n : Int) / 2 = ((n / 2 : Nat) : Int) := by omega
              have lb2 : (ofN (b * b)).length ≤ 2048 := len_mul lb lb (by omega)
              have hbb : 2 ≤ b * b := Nat.le_trans hb (Nat.le_mul_of_pos_left _ (by omega))
              rw [e2, ih (n / 2) (by omega) k o' (b * b) (by omega) ho' h1 hbb lb2 (by omega), tot]
            · rw [if_pos (by simp [h3])]
              have : b ≤ o * b ^ n := Nat.le_trans (pow_ge (by omega) h0) (Nat.le_mul_of_pos_left _ ho)
              rw [if_neg (by omega)]
        · rw [if_pos (by simp [h1])]
          simp only [nat_Pow.j2]
          rw [if_pos trivial, if_neg (by omega)]
      by_cases h1 : n % 2 = 1
      · rw [if_pos (by omega), mul_eq (k + 2) hol hbl (by omega) (by omega) (by omega), bind_s]
        exact step (o * b) (by rw [if_pos h1])
      · rw [if_neg (by omega)]
        exact step o (by rw [if_neg h1]; omega)
def powS (v : Nat) (n : Int) : List Int × Int := if v < big then (if n < 0 then ([], 2) else if v ^ n.toNat < big then (ofN (v ^ n.toNat), 0) else ([], 3)) else ([], 3)
theorem pow_big {v n : Nat} (hv : 2 ≤ v) (hn : 65536 < n) : ¬ v ^ n < big := by
  intro h
  have h1 := big_lt_iff.1 (Nat.lt_of_le_of_lt (Nat.pow_le_pow_left hv n) h)
  have h2 : bl (2 ^ n) = n + 1 := bl_unique (Nat.le_refl _) (by rw [Nat.pow_succ]; have : 0 < 2 ^ n := Nat.pow_pos (by decide); omega)
  omega
theorem Pow_eq (a : List Int) (n : Int) (k : Nat) (ha : Ws a) (hn : n < 9223372036854775808) (na : a.length < 17592186044000) (hk : a.length + 4000000 < k) : nat_Pow.f k a n = some (powS (val a) n) := by
  unfold nat_Pow.f powS
  rw [one_eq a k ha (by omega) (by omega), bind_s]
  by_cases h : val a < big
  · have hl := len_big h
    simp only [if_pos h]
    rw [if_pos trivial]
    by_cases h0 : n < 0
    · rw [if_pos h0, if_pos h0]
    · rw [if_neg h0, if_neg h0]
      obtain ⟨m, rfl⟩ : ∃ m : Nat, n = (m : Int) := ⟨n.toNat, by omega⟩
      have hm : m < 9223372036854775808 := by omega
      rw [Int.toNat_natCast]
      by_cases h1 : m = 0
      · subst h1
        rw [if_pos (by omega), Nat.pow_zero, if_pos one_lt_big]
        have t := nOf_eq 1 k (by decide) (by omega)
        have e1 : ((1 : Nat) : Int) = 1 := rfl
        rw [e1] at t
        rw [t, bind_s]
      · rw [if_neg (by omega), len_eq _ k hl (by omega), bind_s]
        by_cases h2 : bl (val a) ≤ 1
        · rw [if_pos (by omega)]
          have ho := own_eq (ofN (val a)) (by omega)
          rw [ho, bind_s]
          have hv : val a ≤ 1 := by have := bl_le_iff.1 h2; omega
          have hp : val a ^ m = val a := by
            have : val a = 0 ∨ val a = 1 := by omega
            rcases this with z | z
            · rw [z, Nat.zero_pow (by omega)]
            · rw [z, Nat.one_pow]
          rw [hp, if_pos h]
        · rw [if_neg (by omega)]
          have hv : 2 ≤ val a := by
            apply Classical.byContradiction; intro g
            exact h2 (bl_le_iff.2 (by omega))
          by_cases h3 : 65536 < m
          · rw [if_pos (by omega), if_neg (pow_big hv h3)]
          · have t := pow_loop m k 1 (val a) (by omega) (by decide) one_lt_big hv (by omega) (by omega)
            rw [ofN_one, Nat.one_mul] at t
            rw [if_neg (by omega), t]
  · simp only [if_neg h]
    rw [if_neg (by decide)]
end Go.Proofs.YtdbhednhhmbooaaDoor.Nf

namespace Go.Proofs.YtdbhednhhmbooaaDoor.Nf
open Go.RowKit Go.Proofs.YtdbhednhhmbooaaDoor.PAll Go.Proofs.YtdbhednhhmbooaaDoorW.PrintWords Go.Proofs.YtdbhednhhmbooaaDoorW.PrintLast Go.Proofs.YtdbhednhhmbooaaDoorW.PrintMore Go.Proofs.YtdbhednhhmbooaaDoor.Nm
set_option linter.unusedVariables false
set_option linter.unusedSimpArgs false
theorem sq_nonneg (x : Int) : 0 ≤ x * x := by
  rcases Int.le_total 0 x with h | h
  · exact Int.mul_nonneg h h
  · have := Int.mul_nonneg (Int.neg_nonneg.2 h) (Int.neg_nonneg.2 h); rwa [Int.neg_mul_neg] at this
theorem mean2 (x d r : Int) (h : 2 * r = x + d) : d * x ≤ r * r := by
  have q := sq_nonneg (x - d)
  have e : (x - d) * (x - d) = 4 * (r * r) - 4 * (d * x) := by grind
  omega
theorem mean3 (x d r : Int) (h0 : 0 ≤ x) (h1 : 0 ≤ r) (h : 3 * r = 2 * x + d) : d * (x * x) ≤ r * r * r := by
  have q := Int.mul_nonneg (sq_nonneg (x - r)) (show 0 ≤ r + 2 * x by omega)
  have e : (x - r) * (x - r) * (r + 2 * x) = r * r * r - d * (x * x) := by grind
  omega
theorem newton2 {a x r : Nat} (hx : 0 < x) (hr : r * r ≤ a) : 2 * r ≤ a / x + x := by
  by_cases h : 2 * r ≤ x
  · exact Nat.le_trans h (Nat.le_add_left _ _)
  · obtain ⟨d, hd⟩ : ∃ d, 2 * r = x + d := ⟨2 * r - x, by omega⟩
    have := mean2 x d r (by omega)
    have h2 : d * x ≤ a := by
      have h3 : ((d * x : Nat) : Int) ≤ ((r * r : Nat) : Int) := by simpa using this
      omega
    have := (Nat.le_div_iff_mul_le hx).2 h2
    omega
theorem newton3 {a x r : Nat} (hx : 0 < x) (hr : r * r * r ≤ a) : 3 * r ≤ a / (x * x) + 2 * x := by
  by_cases h : 3 * r ≤ 2 * x
  · exact Nat.le_trans h (Nat.le_add_left _ _)
  · obtain ⟨d, hd⟩ : ∃ d, 3 * r = 2 * x + d := ⟨3 * r - 2 * x, by omega⟩
    have := mean3 x d r (by omega) (by omega) (by omega)
    have h2 : d * (x * x) ≤ a := by
      have h3 : ((d * (x * x) : Nat) : Int) ≤ ((r * r * r : Nat) : Int) := by simpa using this
      omega
    have := (Nat.le_div_iff_mul_le (Nat.mul_pos hx hx)).2 h2
    omega
theorem mulN {x y : Nat} (k : Nat) (hx : (ofN x).length ≤ 1024) (hy : (ofN y).length ≤ 1024) (hk : 2000000 < k) : nat_number_mul.f k (ofN x) (ofN y) = some (ofN (x * y)) := by
  have h1 : (ofN x).length * ((ofN y).length + 2) ≤ 1024 * 1026 := Nat.mul_le_mul hx (by omega)
  have h := nmul_eq (ofN x) (ofN y) k (ws_ofN x) (ws_ofN y) (by omega) (by omega)
  rw [val_ofN, val_ofN] at h; exact h
theorem mul1 {x : Nat} (k : Nat) (hx : (ofN x).length ≤ 1024) (hk : 2000000 < k) : nat_number_mul.f k [1] (ofN x) = some (ofN x) := by
  have h := mulN (x := 1) (y := x) k (by rw [ofN_one]; decide) hx hk
  rw [ofN_one, Nat.one_mul] at h; exact h
theorem addN {x y : Nat} (k : Nat) (hx : (ofN x).length ≤ 2100) (hy : (ofN y).length ≤ 2100) (hk : 2000000 < k) : nat_number_add.f k (ofN x) (ofN y) = some (ofN (x + y)) := by
  have h := add_eq (ofN x) (ofN y) (ws_ofN x) (ws_ofN y) (by omega) (by omega) k (by omega)
  rw [val_ofN, val_ofN] at h; exact h
theorem shortN {x : Nat} (k d : Nat) (hx : (ofN x).length ≤ 2100) (h0 : 0 < d) (hd : d < 10) (hk : 2000000 < k) : nat_number_short.f k (ofN x) (d : Int) = some (ofN (x / d), ((x % d : Nat) : Int)) := by
  have h := short_eq (ofN x) (ws_ofN x) d k h0 (by omega) (by omega) (by omega)
  rw [val_ofN] at h; exact h
theorem cmpI_ge {a b : Nat} : cmpI a b ≥ 0 ↔ b ≤ a := by
  unfold cmpI
  by_cases h : a < b
  · rw [if_pos h]; omega
  · rw [if_neg h]
    by_cases g : a = b
    · rw [if_pos g]; omega
    · rw [if_neg g]; omega
theorem len_add {x y m : Nat} (hx : (ofN x).length ≤ m) (hy : (ofN y).length ≤ m) : (ofN (x + y)).length ≤ m + 1 := by
  rw [ofN_len] at hx hy ⊢
  rw [Nat.pow_succ]; omega
theorem root_l0 (k : Nat) (x0 : List Int) (x1 : Int) (x5 : List Int) : nat_number_root.l0 (k + 1) x0 x1 x5 = nat_number_root.l1 k x0 x1 x5 (([1] : List Int)) (wrap64 (x1 - 1)) 0 := by simp only [nat_number_root.l0]
theorem root_l1 (k : Nat) (x0 : List Int) (x1 : Int) (x5 x6 : List Int) (x24 x25 : Int) : nat_number_root.l1 (k + 1) x0 x1 x5 x6 x24 x25 = if x25 < x24 then ((nat_number_mul.f k x6 x5).bind fun t484 => (nat_number_root.l1 k x0 x1 x5 t484 x24 (wrap64 (x25 + 1)))) else ((nat_number_div.f k x0 x6).bind fun bt487 => (nat_number_root.l2 k x0 x1 x5 bt487.1 (wrap64 (x1 - 1)) 0)) := by simp only [nat_number_root.l1]
theorem root_l2 (k : Nat) (x0 : List Int) (x1 : Int) (x5 x9 : List Int) (x39 x40 : Int) : nat_number_root.l2 (k + 1) x0 x1 x5 x9 x39 x40 = if x40 < x39 then ((nat_number_add.f k x9 x5).bind fun t493 => (nat_number_root.l2 k x0 x1 x5 t493 x39 (wrap64 (x40 + 1)))) else ((nat_number_short.f k x9 (IntKind.u64.wrap (x1))).bind fun bt496 => ((nat_number_cmp.f k bt496.1 x5).bind fun t500 => (if t500 ≥ 0 then (some x5) else (nat_number_root.l0 k x0 x1 bt496.1)))) := by simp only [nat_number_root.l2]
theorem rooted_l0 (k : Nat) (x7 x9 x10 : List Int) (x23 x24 : Int) : nat_rooted.l0 (k + 1) x7 x9 x10 x23 x24 = if x24 < x23 then ((nat_number_mul.f k x10 x9).bind fun t521 => (nat_rooted.l0 k x7 x9 t521 x23 (wrap64 (x24 + 1)))) else ((nat_number_own.f x9).bind fun t524 => ((nat_number_sub.f k x7 x10).bind fun t527 => ((nat_number_own.f t527).bind fun t530 => (some (t524, t530, 0))))) := by simp only [nat_rooted.l0]
/-- One step towards the square root. -/
theorem root2_step (a x k : Nat) (ha : (ofN a).length ≤ 1024) (hx0 : 0 < x) (hx : (ofN x).length ≤ 1024) (hk : 3000000 < k) :
    nat_number_root.l0 (k + 5) (ofN a) 2 (ofN x) = if x ≤ (a / x + x) / 2 then some (ofN x) else nat_number_root.l0 k (ofN a) 2 (ofN ((a / x + x) / 2)) := by
  have w1 : wrap64 ((2 : Int) - 1) = 1 := by rw [wrapS (by decide) (by decide)]; rfl
  have w2 : wrap64 ((0 : Int) + 1) = 1 := by rw [wrapS (by decide) (by decide)]; rfl
  have w3 : IntKind.u64.wrap (2 : Int) = ((2 : Nat) : Int) := by decide
  have lq : (ofN (a / x)).length ≤ 1024 := Nat.le_trans (ofN_len_le (Nat.div_le_self _ _)) ha
  have ls : (ofN (a / x + x)).length ≤ 1025 := len_add lq hx
  have ln : (ofN ((a / x + x) / 2)).length ≤ 1025 := Nat.le_trans (ofN_len_le (Nat.div_le_self _ _)) ls
  rw [root_l0]
  rw [root_l1]
  rw [w1, w2, if_pos (by decide), mul1 (k + 3) hx (by omega), bind_s]
  rw [root_l1]
  rw [if_neg (by decide), div_eq a x (k + 2) (by omega) ha hx (by omega), bind_s]
  rw [root_l2]
  rw [w1, w2, if_pos (by decide), addN (k + 1) (by omega) (by omega) (by omega), bind_s]
  rw [root_l2]
  rw [if_neg (by decide), w3, shortN k 2 (by omega) (by decide) (by decide) (by omega), bind_s]
  simp only []
  rw [cmp_eq _ _ k (by omega) (by omega), bind_s]
  by_cases h : x ≤ (a / x + x) / 2
  · rw [if_pos h, if_pos (cmpI_ge.2 h)]
  · rw [if_neg h, if_neg (fun q => h (cmpI_ge.1 q))]
theorem root3_step (a x k : Nat) (ha : (ofN a).length ≤ 1024) (hx0 : 0 < x) (hx : (ofN x).length ≤ 512) (hk : 3000000 < k) :
    nat_number_root.l0 (k + 7) (ofN a) 3 (ofN x) = if x ≤ (a / (x * x) + x + x) / 3 then some (ofN x) else nat_number_root.l0 k (ofN a) 3 (ofN ((a / (x * x) + x + x) / 3)) := by
  have w1 : wrap64 ((3 : Int) - 1) = 2 := by rw [wrapS (by decide) (by decide)]; rfl
  have w2 : wrap64 ((0 : Int) + 1) = 1 := by rw [wrapS (by decide) (by decide)]; rfl
  have w4 : wrap64 ((1 : Int) + 1) = 2 := by rw [wrapS (by decide) (by decide)]; rfl
  have w3 : IntKind.u64.wrap (3 : Int) = ((3 : Nat) : Int) := by decide
  have lx : (ofN (x * x)).length ≤ 1024 := len_mul hx hx (by omega)
  have px : 0 < x * x := Nat.mul_pos hx0 hx0
  have lq : (ofN (a / (x * x))).length ≤ 1024 := Nat.le_trans (ofN_len_le (Nat.div_le_self _ _)) ha
  have ls : (ofN (a / (x * x) + x)).length ≤ 1025 := len_add lq (by omega)
  have ls2 : (ofN (a / (x * x) + x + x)).length ≤ 1026 := len_add ls (by omega)
  have ln : (ofN ((a / (x * x) + x + x) / 3)).length ≤ 1026 := Nat.le_trans (ofN_len_le (Nat.div_le_self _ _)) ls2
  rw [root_l0]
  rw [root_l1]
  rw [w1, w2, if_pos (by decide), mul1 (k + 5) (by omega) (by omega), bind_s]
  rw [root_l1]
  rw [w4, if_pos (by decide), mulN (k + 4) (by omega) (by omega) (by omega), bind_s]
  rw [root_l1]
  rw [if_neg (by decide), div_eq a (x * x) (k + 3) (by omega) ha lx (by omega), bind_s]
  rw [root_l2]
  rw [w1, w2, if_pos (by decide), addN (k + 2) (by omega) (by omega) (by omega), bind_s]
  rw [root_l2]
  rw [w4, if_pos (by decide), addN (k + 1) (by omega) (by omega) (by omega), bind_s]
  rw [root_l2]
  rw [if_neg (by decide), w3, shortN k 3 (by omega) (by decide) (by decide) (by omega), bind_s]
  simp only []
  rw [cmp_eq _ _ k (by omega) (by omega), bind_s]
  by_cases h : x ≤ (a / (x * x) + x + x) / 3
  · rw [if_pos h, if_pos (cmpI_ge.2 h)]
  · rw [if_neg h, if_neg (fun q => h (cmpI_ge.1 q))]
/-- What a root is: its power is at most the number, and no greater number's is. -/
def IsR (P : Nat → Nat) (a s : Nat) : Prop := P s ≤ a ∧ ∀ r, P r ≤ a → r ≤ s
theorem root2_loop (a : Nat) (ha0 : 0 < a) (ha : (ofN a).length ≤ 1024) (x : Nat) : ∀ k, 0 < x → (ofN x).length ≤ 1024 → (∀ r, r * r ≤ a → r ≤ x) → 5 * x + 4000000 < k →
    ∃ s, nat_number_root.l0 k (ofN a) 2 (ofN x) = some (ofN s) ∧ IsR (fun r => r * r) a s ∧ s ≤ x := by
  induction x using Nat.strongRecOn with
  | _ x ih =>
    intro k hx hl hr hk
    obtain ⟨k, rfl⟩ : ∃ m, k = m + 5 := ⟨k - 5, by omega⟩
    have st := root2_step a x k ha hx hl (by omega)
    by_cases h : x ≤ (a / x + x) / 2
    · rw [if_pos h] at st
      refine ⟨x, st, ⟨?_, hr⟩, Nat.le_refl _⟩
      have : x ≤ a / x := by omega
      exact (Nat.le_div_iff_mul_le hx).1 this
    · rw [if_neg h] at st
      have hr2 : ∀ r, r * r ≤ a → r ≤ (a / x + x) / 2 := fun r e => by have := newton2 hx e; omega
      have h1 := hr2 1 (by omega)
      obtain ⟨s, e, i, l⟩ := ih ((a / x + x) / 2) (by omega) k (by omega) (Nat.le_trans (ofN_len_le (by omega)) hl) hr2 (by omega)
      exact ⟨s, st.trans e, i, by omega⟩
theorem root3_loop (a : Nat) (ha0 : 0 < a) (ha : (ofN a).length ≤ 1024) (x : Nat) : ∀ k, 0 < x → (ofN x).length ≤ 512 → (∀ r, r * r * r ≤ a → r ≤ x) → 7 * x + 4000000 < k →
    ∃ s, nat_number_root.l0 k (ofN a) 3 (ofN x) = some (ofN s) ∧ IsR (fun r => r * r * r) a s ∧ s ≤ x := by
  induction x using Nat.strongRecOn with
  | _ x ih =>
    intro k hx hl hr hk
    obtain ⟨k, rfl⟩ : ∃ m, k = m + 7 := ⟨k - 7, by omega⟩
    have st := root3_step a x k ha hx hl (by omega)
    by_cases h : x ≤ (a / (x * x) + x + x) / 3
    · rw [if_pos h] at st
      refine ⟨x, st, ⟨?_, hr⟩, Nat.le_refl _⟩
      have : x ≤ a / (x * x) := by omega
      have := (Nat.le_div_iff_mul_le (Nat.mul_pos hx hx)).1 this
      rw [← Nat.mul_assoc] at this; exact this
    · rw [if_neg h] at st
      have hr2 : ∀ r, r * r * r ≤ a → r ≤ (a / (x * x) + x + x) / 3 := fun r e => by have := newton3 hx e; omega
      have h1 := hr2 1 (by omega)
      obtain ⟨s, e, i, l⟩ := ih ((a / (x * x) + x + x) / 3) (by omega) k (by omega) (Nat.le_trans (ofN_len_le (by omega)) hl) hr2 (by omega)
      exact ⟨s, st.trans e, i, by omega⟩
/-- 2^m, as package nat shifts 1. -/
theorem shl1 (m k : Nat) (hm : m ≤ 65536) (hk : 3000000 < k) : nat_number_shl.f k [1] (m : Int) = some (ofN (2 ^ m)) := by
  have h := nshl_eq [1] m k (ws_cons.2 ⟨by omega, ws_nil⟩) (by omega) (by simp) (by simp; omega) (by simp; omega)
  have v : val [1] = 1 := rfl
  rw [v, Nat.one_mul] at h; exact h
theorem len_pow2 {m n : Nat} (h : m < 64 * n) : (ofN (2 ^ m)).length ≤ n := by
  rw [ofN_len]
  have e : (18446744073709551616 : Nat) ^ n = 2 ^ (64 * n) := by rw [Nat.pow_mul]
  rw [e]; exact Nat.pow_lt_pow_right (by decide) h
theorem above2 {a m : Nat} (h : bl a ≤ 2 * m) : ∀ r, r * r ≤ a → r ≤ 2 ^ m := fun r e => by
  apply Classical.byContradiction; intro g
  have h1 : 2 ^ m * 2 ^ m < r * r := Nat.mul_lt_mul_of_lt_of_le (by omega) (by omega) (Nat.lt_of_le_of_lt (Nat.zero_le (2 ^ m)) (by omega))
  rw [← Nat.pow_add] at h1
  have h2 := bl_lt a
  have h3 : 2 ^ bl a ≤ 2 ^ (m + m) := Nat.pow_le_pow_right (by decide) (by omega)
  omega
theorem above3 {a m : Nat} (h : bl a ≤ 3 * m) : ∀ r, r * r * r ≤ a → r ≤ 2 ^ m := fun r e => by
  apply Classical.byContradiction; intro g
  have h0 : 2 ^ m * 2 ^ m ≤ r * r := Nat.mul_le_mul (by omega) (by omega)
  have hp : 0 < 2 ^ m := Nat.pow_pos (by decide)
  have h1 : 2 ^ m * 2 ^ m * 2 ^ m ≤ r * r * 2 ^ m := Nat.mul_le_mul h0 (Nat.le_refl _)
  have h1' : r * r * 2 ^ m < r * r * r := Nat.mul_lt_mul_of_pos_left (by omega) (Nat.mul_pos (by omega) (by omega))
  rw [← Nat.pow_add, ← Nat.pow_add] at h1
  have h2 := bl_lt a
  have h3 : 2 ^ bl a ≤ 2 ^ (m + m + m) := Nat.pow_le_pow_right (by decide) (by omega)
  omega
theorem root2_eq (a k : Nat) (ha : (ofN a).length ≤ 1024) (hb : bl a ≤ 65536) (hk : 5 * 2 ^ ((bl a + 1) / 2) + 5000000 < k) :
    ∃ s, nat_number_root.f k (ofN a) 2 = some (ofN s) ∧ IsR (fun r => r * r) a s := by
  unfold nat_number_root.f
  by_cases h : a = 0
  · subst h
    refine ⟨0, ?_, by simp, fun r hr => ?_⟩
    · rw [ofN_zero]; rfl
    · have : r * r = 0 := by simpa using hr
      have := Nat.mul_eq_zero.1 this; omega
  · have hl : ¬ ((ofN a).length : Int) = 0 := by have := ofN_zero_iff (v := a); omega
    obtain ⟨m, hm⟩ : ∃ m, m = (bl a + 1) / 2 := ⟨_, rfl⟩
    rw [← hm] at hk
    have e1 : wrap64 (Int.tdiv (wrap64 (wrap64 (((bl a : Nat) : Int) + 2) - 1)) 2) = (m : Int) := by
      rw [wrapS (x := ((bl a : Nat) : Int) + 2) (by omega) (by omega), wrapS (x := ((bl a : Nat) : Int) + 2 - 1) (by omega) (by omega)]
      have : ((bl a : Nat) : Int) + 2 - 1 = ((bl a + 1 : Nat) : Int) := by omega
      rw [this, show (2 : Int) = ((2 : Nat) : Int) from rfl, tdivN, ← hm]
      exact wrapS (by omega) (by omega)
    rw [if_neg hl, len_eq a k ha (by omega), bind_s, if_neg (by decide), e1, shl1 m k (by omega) (by omega), bind_s]
    obtain ⟨s, e, i, _⟩ := root2_loop a (by omega) ha (2 ^ m) k (Nat.pow_pos (by decide)) (len_pow2 (by omega)) (above2 (by omega)) (by omega)
    exact ⟨s, e, i⟩
theorem root3_eq (a k : Nat) (ha : (ofN a).length ≤ 1024) (hb : bl a ≤ 65536) (hk : 7 * 2 ^ ((bl a + 2) / 3) + 5000000 < k) :
    ∃ s, nat_number_root.f k (ofN a) 3 = some (ofN s) ∧ IsR (fun r => r * r * r) a s ∧ (ofN s).length ≤ 512 := by
  unfold nat_number_root.f
  by_cases h : a = 0
  · subst h
    refine ⟨0, ?_, ⟨by simp, fun r hr => ?_⟩, by rw [ofN_zero]; decide⟩
    · rw [ofN_zero]; rfl
    · have h1 : r * r * r = 0 := by simpa using hr
      have h2 := Nat.mul_eq_zero.1 h1
      rcases h2 with h2 | h2
      · have := Nat.mul_eq_zero.1 h2; omega
      · omega
  · have hl : ¬ ((ofN a).length : Int) = 0 := by have := ofN_zero_iff (v := a); omega
    obtain ⟨m, hm⟩ : ∃ m, m = (bl a + 2) / 3 := ⟨_, rfl⟩
    rw [← hm] at hk
    have e1 : wrap64 (Int.tdiv (wrap64 (wrap64 (((bl a : Nat) : Int) + 3) - 1)) 3) = (m : Int) := by
      rw [wrapS (x := ((bl a : Nat) : Int) + 3) (by omega) (by omega), wrapS (x := ((bl a : Nat) : Int) + 3 - 1) (by omega) (by omega)]
      have : ((bl a : Nat) : Int) + 3 - 1 = ((bl a + 2 : Nat) : Int) := by omega
      rw [this, show (3 : Int) = ((3 : Nat) : Int) from rfl, tdivN, ← hm]
      exact wrapS (by omega) (by omega)
    have l2 : (ofN (2 ^ m)).length ≤ 512 := len_pow2 (by omega)
    rw [if_neg hl, len_eq a k ha (by omega), bind_s, if_neg (by decide), e1, shl1 m k (by omega) (by omega), bind_s]
    obtain ⟨s, e, i, le⟩ := root3_loop a (by omega) ha (2 ^ m) k (Nat.pow_pos (by decide)) l2 (above3 (by omega)) (by omega)
    exact ⟨s, e, i, Nat.le_trans (ofN_len_le le) l2⟩
theorem sub_len {a b : Nat} (h : (ofN a).length ≤ 1024) : (ofN (a - b)).length ≤ 1024 := Nat.le_trans (ofN_len_le (Nat.sub_le _ _)) h
/-- The square root and what is left. -/
theorem Sqrt_eq (a : List Int) (k : Nat) (ha : Ws a) (na : a.length < 17592186044000) (hk : 5 * 2 ^ ((bl (val a) + 1) / 2) + a.length + 6000000 < k) :
    (val a < big → ∃ s, nat_Sqrt.f k a = some (ofN s, ofN (val a - s * s), 0) ∧ IsR (fun r => r * r) (val a) s) ∧ (¬ val a < big → nat_Sqrt.f k a = some ([], [], 3)) := by
  unfold nat_Sqrt.f nat_rooted.f
  rw [one_eq a k ha (by omega) (by omega), bind_s]
  refine ⟨fun h => ?_, fun h => ?_⟩
  · have la := len_big h
    obtain ⟨s, e, i⟩ := root2_eq (val a) k la (big_lt_iff.1 h) (by omega)
    have hs : s * s ≤ val a := i.1
    have hs1 : s ≤ val a := by
      rcases Nat.eq_zero_or_pos s with z | z
      · omega
      · exact Nat.le_trans (Nat.le_mul_of_pos_left s z) hs
    have ls : (ofN s).length ≤ 1024 := Nat.le_trans (ofN_len_le hs1) la
    have ls2 : (ofN (s * s)).length ≤ 1024 := Nat.le_trans (ofN_len_le hs) la
    refine ⟨s, ?_, i⟩
    obtain ⟨k, rfl⟩ : ∃ m, k = m + 3 := ⟨k - 3, by omega⟩
    have w2 : wrap64 ((0 : Int) + 1) = 1 := by rw [wrapS (by decide) (by decide)]; rfl
    have w4 : wrap64 ((1 : Int) + 1) = 2 := by rw [wrapS (by decide) (by decide)]; rfl
    simp only [if_pos h]
    rw [if_pos trivial, e, bind_s]
    rw [rooted_l0]
    rw [w2, if_pos (by decide), mul1 (k + 2) ls (by omega), bind_s]
    rw [rooted_l0]
    rw [w4, if_pos (by decide), mulN (k + 1) ls ls (by omega), bind_s]
    rw [rooted_l0]
    have o1 := own_eq (ofN s) (by omega)
    have l3 := sub_len (b := s * s) la
    have o2 := own_eq (ofN (val a - s * s)) (by omega)
    rw [if_neg (by decide), o1, bind_s, sub_eq (val a) (s * s) hs k (by omega) (by omega), bind_s, o2, bind_s, bind_s]
  · simp only [if_neg h]
    rw [if_neg (by decide), bind_s]
theorem Cbrt_eq (a : List Int) (k : Nat) (ha : Ws a) (na : a.length < 17592186044000) (hk : 7 * 2 ^ ((bl (val a) + 2) / 3) + a.length + 6000000 < k) :
    (val a < big → ∃ s, nat_Cbrt.f k a = some (ofN s, ofN (val a - s * s * s), 0) ∧ IsR (fun r => r * r * r) (val a) s ∧ (ofN s).length ≤ 512) ∧ (¬ val a < big → nat_Cbrt.f k a = some ([], [], 3)) := by
  unfold nat_Cbrt.f nat_rooted.f
  rw [one_eq a k ha (by omega) (by omega), bind_s]
  refine ⟨fun h => ?_, fun h => ?_⟩
  · have la := len_big h
    obtain ⟨s, e, i, ls⟩ := root3_eq (val a) k la (big_lt_iff.1 h) (by omega)
    have hs : s * s * s ≤ val a := i.1
    have ls2 : (ofN (s * s)).length ≤ 1024 := len_mul ls ls (by omega)
    have ls3 : (ofN (s * s * s)).length ≤ 1024 := Nat.le_trans (ofN_len_le hs) la
    refine ⟨s, ?_, i, ls⟩
    obtain ⟨k, rfl⟩ : ∃ m, k = m + 4 := ⟨k - 4, by omega⟩
    have w2 : wrap64 ((0 : Int) + 1) = 1 := by rw [wrapS (by decide) (by decide)]; rfl
    have w4 : wrap64 ((1 : Int) + 1) = 2 := by rw [wrapS (by decide) (by decide)]; rfl
    have w5 : wrap64 ((2 : Int) + 1) = 3 := by rw [wrapS (by decide) (by decide)]; rfl
    simp only [if_pos h]
    rw [if_pos trivial, e, bind_s]
    rw [rooted_l0]
    rw [w2, if_pos (by decide), mul1 (k + 3) (by omega) (by omega), bind_s]
    rw [rooted_l0]
    rw [w4, if_pos (by decide), mulN (k + 2) (by omega) (by omega) (by omega), bind_s]
    rw [rooted_l0]
    rw [w5, if_pos (by decide), mulN (k + 1) ls2 (by omega) (by omega), bind_s]
    rw [rooted_l0]
    have o1 := own_eq (ofN s) (by omega)
    have l3 := sub_len (b := s * s * s) la
    have o2 := own_eq (ofN (val a - s * s * s)) (by omega)
    rw [if_neg (by decide), o1, bind_s, sub_eq (val a) (s * s * s) hs k (by omega) (by omega), bind_s, o2, bind_s, bind_s]
  · simp only [if_neg h]
    rw [if_neg (by decide), bind_s]
end Go.Proofs.YtdbhednhhmbooaaDoor.Nf

namespace Go.Proofs.YtdbhednhhmbooaaDoor.Nf
open Go.RowKit Go.Proofs.YtdbhednhhmbooaaDoor.PAll Go.Proofs.YtdbhednhhmbooaaDoorW.PrintWords
theorem lives_eq (k : Nat) (hk : 3000 ≤ k) : ulplaw03_lives.f k = some true :=
  at_rounds ulplaw03_lives.mono hk (by decide +kernel)
end Go.Proofs.YtdbhednhhmbooaaDoor.Nf

namespace Go.Proofs.YtdbhednhhmbooaaDoor.Pure
open Go.RowKit Go.Proofs.YtdbhednhhmbooaaDoor.PAll Go.Proofs.YtdbhednhhmbooaaDoorW.PrintWords Go.Proofs.YtdbhednhhmbooaaDoorW.PrintLast Go.Proofs.YtdbhednhhmbooaaDoorW.PrintMore
set_option linter.unusedVariables false
set_option linter.unusedSimpArgs false
open Go.Proofs.YtdbhednhhmbooaaDoor.Nm Go.Proofs.YtdbhednhhmbooaaDoor.Nf
theorem rdig_get (v j : Nat) (h : j < (rdig v).length) : (rdig v).getD j 0 = ((48 + v / 10 ^ j % 10 : Nat) : Int) := by
  induction j generalizing v with
  | zero =>
    by_cases z : v = 0
    · subst z; rw [rdig_zero] at h; simp at h
    · rw [rdig_pos z, Nat.pow_zero, Nat.div_one]; rfl
  | succ j ih =>
    by_cases z : v = 0
    · subst z; rw [rdig_zero] at h; simp at h
    · rw [rdig_pos z] at h ⊢
      simp only [List.length_cons] at h
      have := ih (v / 10) (by omega)
      rw [Nat.div_div_eq_div_mul, ← Nat.pow_succ'] at this
      rw [List.getD_cons_succ]; exact this
theorem rev_get (l : List Int) (i : Nat) (h : i < l.length) : l.reverse.getD i 0 = l.getD (l.length - 1 - i) 0 := by
  simp only [List.getD_eq_getElem?_getD, List.getElem?_reverse h]
theorem bt_str (D : List Int) (i : Nat) (c : Nat) (h : i < D.length) (hc : c < 256) (e : D.getD i 0 = (c : Int)) : bt (strOfNums D) (i : Int) = (c : Int) := by
  unfold bt
  rw [dif_pos (by rw [Int.toNat_natCast, strOfNums_size]; exact h)]
  have e2 : D[i] = (c : Int) := by rw [List.getD_eq_getElem?_getD, List.getElem?_eq_getElem h] at e; exact e
  have : (strOfNums D)[(i : Int).toNat]'(by rw [Int.toNat_natCast, strOfNums_size]; exact h) = UInt8.ofNat c := by
    show (strOfNums D).data[i]'(by simpa [strOfNums] using h) = _
    simp [strOfNums, e2]
  have q : (UInt8.ofNat c).toNat = c % 256 := by first | exact UInt8.toNat_ofNat' | simp | rfl
  rw [this, q]; omega
theorem parS_back (v n : Nat) (hv : v ≠ 0) (hn : (rdig v).length = n) (r : Nat) : ∀ i, r + i = n → parS (strOfNums (rdig v).reverse) r i (v / 10 ^ r) = (ofN v, 0, 0) := by
  have key : ∀ i j, i + j + 1 = n → bt (strOfNums (rdig v).reverse) (i : Int) = ((48 + v / 10 ^ j % 10 : Nat) : Int) := fun i j hij => by
    have hl : i < (rdig v).reverse.length := by rw [List.length_reverse]; omega
    refine bt_str _ i (48 + v / 10 ^ j % 10) hl (by omega) ?_
    rw [rev_get _ _ (by omega), hn]
    have : n - 1 - i = j := by omega
    rw [this]; exact rdig_get v j (by omega)
  have n0 : n ≠ 0 := fun z => by rw [rdig_pos hv] at hn; simp at hn; omega
  have first : bt (strOfNums (rdig v).reverse) 0 ≠ 48 := by
    have := key 0 (n - 1) (by omega)
    have e0 : ((0 : Nat) : Int) = 0 := rfl
    rw [e0] at this
    rw [this]
    have h1 : 10 ^ (n - 1) ≤ v := by
      apply Classical.byContradiction; intro g
      have := (rdig_len v (n - 1)).2 (by omega)
      omega
    have h2 : v < 10 ^ n := (rdig_len v n).1 (by omega)
    have hp : 0 < 10 ^ (n - 1) := Nat.pow_pos (by decide)
    have h3 : 1 ≤ v / 10 ^ (n - 1) := (Nat.le_div_iff_mul_le hp).2 (by omega)
    have h4 : v / 10 ^ (n - 1) < 10 := by
      rw [Nat.div_lt_iff_lt_mul hp, ← Nat.pow_succ']
      show v < 10 ^ (n - 1 + 1)
      have : n - 1 + 1 = n := by omega
      rw [this]; exact h2
    omega
  induction r with
  | zero =>
    intro i h
    simp only [parS]
    rw [Nat.pow_zero, Nat.div_one]
  | succ r ih =>
    intro i h
    have c := key i r (by omega)
    simp only [parS]
    rw [if_neg (by
      rw [c]
      intro g
      rcases g with g | g | g
      · omega
      · omega
      · exact first g.2), c]
    have e : 10 * (v / 10 ^ (r + 1)) + (((48 + v / 10 ^ r % 10 : Nat) : Int) - 48).toNat = v / 10 ^ r := by
      have e1 : v / 10 ^ (r + 1) = v / 10 ^ r / 10 := by rw [Nat.pow_succ, Nat.div_div_eq_div_mul]
      rw [e1]; omega
    rw [e]
    exact ih (i + 1) (by omega)
theorem back_text (v : Nat) (h : ((textS v).size : Int) ≤ 4096) : parseS (textS v) = (ofN v, 0, 0) := by
  unfold parseS
  rw [if_neg (by omega)]
  by_cases z : v = 0
  · subst z
    have e : textS 0 = ⟨#[48]⟩ := by unfold textS; rw [if_pos rfl]
    rw [e, ofN_zero]
    have b0 : bt ⟨#[48]⟩ ((0 : Nat) : Int) = 48 := by decide
    have ne : ¬ (⟨#[48]⟩ : ByteArray).toList = ([] : List UInt8) := fun q => by
      have h1 := congrArg ByteArray.size ((toList_nil_iff_emptyBytes _).1 q)
      exact absurd h1 (by decide)
    rw [if_neg ne]
    show parS ⟨#[48]⟩ 1 0 0 = _
    simp only [parS]
    rw [b0, if_neg (by omega)]
    simp [ofN_zero]
  · have e : textS v = strOfNums (rdig v).reverse := by unfold textS; rw [if_neg z]
    rw [e]
    have hs : (strOfNums (rdig v).reverse).size = (rdig v).length := by rw [strOfNums_size, List.length_reverse]
    have hz : v / 10 ^ (rdig v).length = 0 := Nat.div_eq_of_lt ((rdig_len v _).1 (Nat.le_refl _))
    have ne : ¬ (strOfNums (rdig v).reverse).toList = ([] : List UInt8) := by
      intro q
      have l0 := congrArg ByteArray.size ((toList_nil_iff_emptyBytes _).1 q)
      rw [hs, rdig_pos z] at l0
      exact absurd l0 (by simp)
    rw [if_neg ne, hs]
    have t := parS_back v (rdig v).length z rfl (rdig v).length 0 (by omega)
    rw [hz] at t; exact t
theorem two_big : 2 < big := (ofN_big 2).1 (by
  have e : ofN 2 = [2] := by
    rw [ofN_pos (by decide)]
    have : (2 : Nat) / 18446744073709551616 = 0 := by decide
    rw [this, ofN_zero]; rfl
  rw [e]; decide)
theorem root_big {v s p : Nat} (hv : v < big) (h : s * s ≤ p) (hp : p ≤ v) : s + 1 < big := by
  have b := two_big
  by_cases g : s ≤ 1
  · omega
  · have : 2 * s ≤ s * s := Nat.mul_le_mul (by omega) (Nat.le_refl _)
    omega
theorem between_j2 (a : List Int) (k : Nat) (ha : Ws a) (h : val a < big) (na : a.length < 17592186044000) (hk : a.length + 10000 < k) : ulplaw03_NatBetween.j2 (k + 1) a (ofN (val a)) = some true := by
  simp only [ulplaw03_NatBetween.j2]
  have hbl : bl (val a) ≤ 65536 := big_lt_iff.1 h
  obtain ⟨low1, low2, low3⟩ := Low_eq a k ha na (by omega)
  have hb := Bit_eq a ((bl (val a) : Nat) : Int) k ha (by omega) na (by omega)
  rw [if_pos h, if_neg (by omega), Int.toNat_natCast] at hb
  have hz : decide (val a / 2 ^ bl (val a) % 2 = 1) = false := by rw [Nat.div_eq_of_lt (bl_lt _)]; rfl
  rw [hz] at hb
  by_cases z : val a = 0
  · have l0 := low2 z
    have b2 := Bit_eq a 0 k ha (by omega) na (by omega)
    have hbz : bl (val a) = 0 := by rw [z]; exact bl_zero
    rw [hbz] at hb
    rw [Len_eq a k ha na (by omega), bind_s, if_pos h, l0, bind_s, hbz]
    simp only []
    have e0 : ((0 : Nat) : Int) = 0 := rfl
    rw [e0] at hb
    rw [e0, hb, bind_s, bind_s]
    simp only []
    rw [if_neg (by decide), z, ofN_zero, if_pos (by decide), if_pos trivial, if_pos trivial]
  · obtain ⟨t, m, e⟩ := low_form (val a) z
    have lt := low_lt e
    have l0 := low3 h t m e
    have b2 := Bit_eq a ((t : Nat) : Int) k ha (by omega) na (by omega)
    rw [if_pos h, if_neg (by omega), Int.toNat_natCast] at b2
    have ht : decide (val a / 2 ^ t % 2 = 1) = true := by
      refine decide_eq_true ?_
      have hp : 0 < 2 ^ t := Nat.pow_pos (by decide)
      rw [e, Nat.mul_div_cancel_left _ hp]; omega
    rw [ht] at b2
    have hne : ¬ ((ofN (val a)).length : Int) = 0 := by have := ofN_zero_iff (v := val a); omega
    rw [Len_eq a k ha na (by omega), bind_s, if_pos h, l0, bind_s]
    simp only []
    rw [hb, bind_s, b2, bind_s]
    simp only []
    rw [if_neg (by decide), if_neg hne, if_pos trivial, decide_eq_true (by omega)]
theorem between_j1 (a : List Int) (k : Nat) (ha : Ws a) (h : val a < big) (na : a.length < 17592186044000) (hk : a.length + 3000000 < k) : ulplaw03_NatBetween.j1 (k + 2) a (ofN (val a)) false = some true := by
  have la := len_big h
  rw [show k + 2 = (k + 1) + 1 from rfl]
  simp only [ulplaw03_NatBetween.j1]
  rw [if_neg (by decide), Text_eq a (k + 1) ha na (by omega), bind_s, if_pos h]
  simp only []
  by_cases s : ((textS (val a)).size : Int) ≤ 4096
  · rw [if_pos s, Parse_eq _ (k + 1) (by omega), bind_s, back_text _ s]
    simp only []
    rw [if_pos trivial, if_pos trivial, same_eq _ (k + 1) (by omega) (by omega), bind_s, if_pos rfl]
    exact between_j2 a k ha h na (by omega)
  · rw [if_neg s]
    exact between_j2 a k ha h na (by omega)
theorem pow_some {v n : Nat} (hv : v < big) (h : v ^ n < big) : powS v (n : Int) = (ofN (v ^ n), 0) := by
  unfold powS
  rw [if_pos hv, if_neg (by omega), Int.toNat_natCast, if_pos h]
theorem pow_or {v n : Nat} (hv : v < big) : powS v (n : Int) = (ofN (v ^ n), 0) ∧ v ^ n < big ∨ powS v (n : Int) = ([], 3) := by
  unfold powS
  rw [if_pos hv, if_neg (by omega), Int.toNat_natCast]
  by_cases h : v ^ n < big
  · rw [if_pos h]; exact Or.inl ⟨rfl, h⟩
  · rw [if_neg h]; exact Or.inr rfl
theorem cmp_up {x y : Nat} (h : y < x) : ¬ cmpI x y ≤ 0 := by
  unfold cmpI
  rw [if_neg (by omega), if_neg (by omega)]; decide
theorem NatBetween : ulplaw03_NatBetween.Pure := by
  intro a _ na wa
  have ha := ws_wf wa
  have na' : a.length < 17592186044000 := by omega
  obtain ⟨f2, h2⟩ : ∃ z, z = 5 * 2 ^ ((bl (val a) + 1) / 2) := ⟨_, rfl⟩
  obtain ⟨f3, h3⟩ : ∃ z, z = 7 * 2 ^ ((bl (val a) + 2) / 3) := ⟨_, rfl⟩
  refine ⟨f2 + f3 + 2 * a.length + 9000000 + 3, ?_⟩
  obtain ⟨k, hk⟩ : ∃ k, k = f2 + f3 + 2 * a.length + 9000000 := ⟨_, rfl⟩
  rw [← hk]
  unfold ulplaw03_NatBetween.f
  obtain ⟨sq1, sq2⟩ := Sqrt_eq a (k + 3) ha na' (by omega)
  obtain ⟨cb1, cb2⟩ := Cbrt_eq a (k + 3) ha na' (by omega)
  rw [lives_eq _ (by omega), bind_s, if_pos rfl]
  by_cases h : val a < big
  · have la := len_big h
    obtain ⟨s, es, is⟩ := sq1 h
    obtain ⟨c, ec, ic, lc⟩ := cb1 h
    have hs : s * s ≤ val a := is.1
    have hc : c * c * c ≤ val a := ic.1
    have gs : val a < (s + 1) ^ 2 := by
      apply Classical.byContradiction; intro g
      have := is.2 (s + 1) (show (s + 1) * (s + 1) ≤ val a by rw [Nat.pow_succ, Nat.pow_one] at g; omega)
      omega
    have gc : val a < (c + 1) ^ 3 := by
      apply Classical.byContradiction; intro g
      have := ic.2 (c + 1) (show (c + 1) * (c + 1) * (c + 1) ≤ val a by rw [Nat.pow_succ, Nat.pow_succ, Nat.pow_one] at g; omega)
      omega
    have s1 : s + 1 < big := root_big h (Nat.le_refl _) hs
    have c1 : c + 1 < big := by
      refine root_big (p := c * c * c) h ?_ hc
      rcases Nat.eq_zero_or_pos c with z | z
      · subst z; simp
      · exact Nat.le_mul_of_pos_right _ z
    have ls : (ofN s).length ≤ 1024 := len_big (by omega)
    have lc' : (ofN c).length ≤ 1024 := len_big (by omega)
    have p2 : s ^ 2 = s * s := by rw [Nat.pow_succ, Nat.pow_one]
    have p3 : c ^ 3 = c * c * c := by rw [Nat.pow_succ, Nat.pow_succ, Nat.pow_one]
    have w1 : Ws ([1] : List Int) := ws_cons.2 ⟨by omega, ws_nil⟩
    have v1 : val [1] = 1 := rfl
    have e1 := Add_eq (ofN s) [1] (k + 2) (ws_ofN _) w1 (by omega) (by decide) (by simp; omega)
    rw [val_ofN, v1, if_pos ⟨by omega, one_lt_big⟩, if_pos s1] at e1
    have e2 := Add_eq (ofN c) [1] (k + 2) (ws_ofN _) w1 (by omega) (by decide) (by simp; omega)
    rw [val_ofN, v1, if_pos ⟨by omega, one_lt_big⟩, if_pos c1] at e2
    have l5 : (ofN (s + 1)).length ≤ 1024 := len_big s1
    have l6 : (ofN (c + 1)).length ≤ 1024 := len_big c1
    have q1 := Pow_eq (ofN s) 2 (k + 2) (ws_ofN _) (by omega) (by omega) (by omega)
    rw [val_ofN, show (2 : Int) = ((2 : Nat) : Int) from rfl, pow_some (by omega) (by rw [p2]; omega), p2] at q1
    have q2 := Pow_eq (ofN c) 3 (k + 2) (ws_ofN _) (by omega) (by omega) (by omega)
    rw [val_ofN, show (3 : Int) = ((3 : Nat) : Int) from rfl, pow_some (by omega) (by rw [p3]; omega), p3] at q2
    have q3 := Pow_eq (ofN (s + 1)) 2 (k + 2) (ws_ofN _) (by omega) (by omega) (by omega)
    rw [val_ofN] at q3
    have q4 := Pow_eq (ofN (c + 1)) 3 (k + 2) (ws_ofN _) (by omega) (by omega) (by omega)
    rw [val_ofN] at q4
    have l7 : (ofN (s * s)).length ≤ 1024 := len_big (by omega)
    have l8 : (ofN (c * c * c)).length ≤ 1024 := len_big (by omega)
    have l9 := sub_len (b := s * s) la
    have l10 := sub_len (b := c * c * c) la
    have t1 := Add_eq (ofN (s * s)) (ofN (val a - s * s)) (k + 2) (ws_ofN _) (ws_ofN _) (by omega) (by omega) (by omega)
    rw [val_ofN, val_ofN, show s * s + (val a - s * s) = val a by omega, if_pos ⟨by omega, by omega⟩, if_pos h] at t1
    have t2 := Add_eq (ofN (c * c * c)) (ofN (val a - c * c * c)) (k + 2) (ws_ofN _) (ws_ofN _) (by omega) (by omega) (by omega)
    rw [val_ofN, val_ofN, show c * c * c + (val a - c * c * c) = val a by omega, if_pos ⟨by omega, by omega⟩, if_pos h] at t2
    have nn := Norm_eq a (k + 2) ha na' (by omega)
    rw [if_pos h] at nn
    have j1 := between_j1 a k ha h na' (by omega)
    rw [es, bind_s, ec, bind_s]
    simp only []
    rw [if_pos trivial, show ((0 : Int) != 0) = false from rfl]
    rw [show k + 3 = (k + 2) + 1 from rfl]
    simp only [ulplaw03_NatBetween.j0]
    rw [show ((2 : Nat) : Int) = 2 from rfl] at q1
    rw [show ((3 : Nat) : Int) = 3 from rfl] at q2
    rw [if_neg (by decide), nn, bind_s, e1, bind_s, e2, bind_s, q1, bind_s, q2, bind_s, q3, bind_s, q4, bind_s]
    simp only []
    rw [t1, bind_s, t2, bind_s]
    simp only []
    rw [same_eq _ (k + 2) (by omega) (by omega), bind_s, if_pos rfl, bind_s, if_pos rfl]
    have last : (if (powS (c + 1) 3).2 = 0 then ((ulpref03_Cmp.f (k + 2) (powS (c + 1) 3).1 (ofN (val a))).bind fun t635 => (ulplaw03_NatBetween.j1 (k + 2) a (ofN (val a)) (decide (t635 ≤ 0)))) else (ulplaw03_NatBetween.j1 (k + 2) a (ofN (val a)) false)) = some true := by
      rcases pow_or (v := c + 1) (n := 3) c1 with ⟨z, zb⟩ | z
      · rw [show ((3 : Nat) : Int) = 3 from rfl] at z
        have lz := len_big zb
        have cm := rcmp_eq (ofN ((c + 1) ^ 3)) (ofN (val a)) (k + 2) (ws_ofN _) (ws_ofN _) (by omega) (by omega) (by omega)
        rw [val_ofN, val_ofN] at cm
        rw [z]; simp only []
        rw [if_pos trivial, cm, bind_s, decide_eq_false (cmp_up gc)]; exact j1
      · rw [show ((3 : Nat) : Int) = 3 from rfl] at z
        rw [z]; simp only []
        rw [if_neg (by decide)]; exact j1
    rcases pow_or (v := s + 1) (n := 2) s1 with ⟨z, zb⟩ | z
    · rw [show ((2 : Nat) : Int) = 2 from rfl] at z
      have lz := len_big zb
      have cm := rcmp_eq (ofN ((s + 1) ^ 2)) (ofN (val a)) (k + 2) (ws_ofN _) (ws_ofN _) (by omega) (by omega) (by omega)
      rw [val_ofN, val_ofN] at cm
      rw [z]; simp only []
      rw [if_pos trivial, cm, bind_s, if_neg (cmp_up gs)]; exact last
    · rw [show ((2 : Nat) : Int) = 2 from rfl] at z
      rw [z]; simp only []
      rw [if_neg (by decide)]; exact last
  · rw [sq2 h, bind_s, cb2 h, bind_s]
    simp only []
    rw [if_neg (by decide)]
    rw [show k + 3 = (k + 2) + 1 from rfl]
    simp only [ulplaw03_NatBetween.j0]
    rw [if_pos trivial, if_pos trivial]; rfl
end Go.Proofs.YtdbhednhhmbooaaDoor.Pure
