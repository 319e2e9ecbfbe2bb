/- Plain part. -/
import Derived.Test.YtjnfipkbgmdpaaaGreatDoorXAlgScaledN1
namespace Go.Proofs.YtjnfipkbgmdpaaaGreatDoor.Nf
open Go.RowKit Go.Proofs.YtjnfipkbgmdpaaaGreatDoor.PAll Go.Proofs.YtjnfipkbgmdpaaaGreatDoorW.PrintWords Go.Proofs.YtjnfipkbgmdpaaaGreatDoorW.PrintLast Go.Proofs.YtjnfipkbgmdpaaaGreatDoorW.PrintMore Go.Proofs.YtjnfipkbgmdpaaaGreatDoor.Nm
set_option linter.unusedVariables false
set_option linter.unusedSimpArgs false
theorem Z0T (v : Nat) (h : v ≠ 0) : ∃ t m, v = 2 ^ t * (2 * m + 1) := by
 induction v using Nat.strongRecOn with
 | _ v ih =>
  by_cases g : v % 2 = 1
  ·exact ⟨0, v / 2, by rw [Nat.pow_zero]; omega⟩
  obtain ⟨t, m, e⟩ := ih (v / 2) (by omega) (by omega)
  exact ⟨t + 1, m, by rw [Nat.pow_succ, Nat.mul_right_comm, ← e]; omega⟩
theorem Z2d (t m n : Nat) (h : n ≤ t) : (2 ^ t * (2 * m + 1)) / 2 ^ n % 2 = if n = t then 1 else 0 := by
 have hp : 0 < 2 ^ n := Nat.pow_pos (by decide)
 obtain ⟨d, rfl⟩ : ∃ d, t = n + d := ⟨t - n, by omega⟩
 rw [Nat.pow_add, Nat.mul_assoc, Nat.mul_div_cancel_left _ hp]
 by_cases g : d = 0
 ·subst g; rw [if_pos (by omega), Nat.pow_zero]; omega
 rw [if_neg (by omega)]
 obtain ⟨e, rfl⟩ : ∃ e, d = e + 1 := ⟨d - 1, by omega⟩
 rw [Nat.pow_succ, Nat.mul_right_comm]; omega
theorem Z2V {t m s n : Nat} (h : 2 ^ t * (2 * m + 1) = 2 ^ s * (2 * n + 1)) : t = s := by
 rcases Nat.lt_trichotomy t s with g | g | g
 ·have a := Z2d t m t (Nat.le_refl _)
  have b := Z2d s n t (Nat.le_of_lt g)
  rw [h, b, if_neg (Nat.ne_of_lt g), if_pos rfl] at a; omega
 ·exact g
 have a := Z2d s n s (Nat.le_refl _)
 have b := Z2d t m s (Nat.le_of_lt g)
 rw [← h, b, if_neg (Nat.ne_of_lt g), if_pos rfl] at a; omega
theorem Z9F (t a : Nat) (h : 2 ^ t * (2 * a + 1) < 2 ^ 64) : 2 ^ t * (2 * a + 1) &&& (2 ^ 64 - 2 ^ t * (2 * a + 1)) = 2 ^ t := by
 have hp : 0 < 2 ^ t := Nat.pow_pos (by decide)
 obtain ⟨c, hc⟩ : ∃ c, c + 1 = 2 ^ t * (2 * a + 1) := ⟨2 ^ t * (2 * a + 1) - 1, by have : 0 < 2 ^ t * (2 * a + 1) := Nat.mul_pos hp (by omega); omega⟩
 have hc2 : c = 2 ^ t * (2 * a) + (2 ^ t - 1) := by rw [Nat.mul_add] at hc; omega
 have ht : t < 64 := (Nat.pow_lt_pow_iff_right (a := 2) (by decide)).1 (Nat.lt_of_le_of_lt (Nat.le_mul_of_pos_right _ (by omega)) h)
 apply Nat.eq_of_testBit_eq
 intro i
 rw [Nat.testBit_and, Nat.testBit_two_pow, ← hc, Nat.testBit_two_pow_sub_succ (by omega), hc, hc2, Nat.testBit_two_pow_mul_add _ (by omega)]
 have e0 : 2 ^ t * (2 * a + 1) = 2 ^ t * (2 * a + 1) + 0 := rfl
 rw [e0, Nat.testBit_two_pow_mul_add _ hp]
 by_cases h1 : i < t
 ·have : t ≠ i := by omega
  simp [h1, this]
 rw [if_neg h1, if_neg h1]
 by_cases h2 : t = i
 ·subst h2
  rw [Nat.sub_self]; simp [ht]
 obtain ⟨j, hj⟩ : ∃ j, i - t = j + 1 := ⟨i - t - 1, by omega⟩
 rw [hj, Nat.testBit_succ, Nat.testBit_succ]
 have e1 : (2 * a + 1) / 2 = a := by omega
 have e2 : 2 * a / 2 = a := by omega
 rw [e1, e2]
 cases a.testBit j <;> simp [h2]
theorem Z8A : ∀ t : Fin 64, tzTab.getD (2 ^ t.val * 285870213051353865 % 18446744073709551616 / 288230376151711744) 0 = (t.val : Int) ∧ 2 ^ t.val * 285870213051353865 % 18446744073709551616 / 288230376151711744 < 64 := by decide +kernel
theorem Z5j {w t m : Nat} (hw : w = 2 ^ t * (2 * m + 1)) (h : w < 18446744073709551616) : Z03.f w = some (t : Int) ∧ t < 64 := by
 have hp : 0 < 2 ^ t := Nat.pow_pos (by decide)
 have h0 : 0 < w := by rw [hw]; exact Nat.mul_pos hp (by omega)
 have h64 : 2 ^ t * (2 * m + 1) < 2 ^ 64 := by rw [← hw]; exact h
 have ht : t < 64 := (Nat.pow_lt_pow_iff_right (a := 2) (by decide)).1 (Nat.lt_of_le_of_lt (Nat.le_mul_of_pos_right _ (by omega)) h64)
 have ha := Z9F t m h64
 rw [← hw] at ha
 obtain ⟨b1, b2⟩ := Z8A ⟨t, ht⟩
 have e1 : IntKind.u64.wrap (-(w : Int)) = ((18446744073709551616 - w : Nat) : Int) := by rw [IntKind.wrap_u64]; omega
 have e2 : bits BinOp.and IntKind.u64 (w : Int) ((18446744073709551616 - w : Nat) : Int) = ((2 ^ t : Nat) : Int) := by
  rw [u64_and_nat w _ h (by omega)]
  exact congrArg Nat.cast ha
 have e3 : tzI (w : Int) = ((2 ^ t * 285870213051353865 % 18446744073709551616 / 288230376151711744 : Nat) : Int) := by
  unfold tzI
  rw [e1, e2]
  generalize 2 ^ t = p
  rw [IntKind.wrap_u64]; omega
 refine ⟨?_, ht⟩
 unfold Z03.f
 dsimp only at b1 b2
 rw [if_neg (by omega), e3, if_pos (Int.natCast_nonneg _), if_pos (by omega), Int.toNat_natCast, b1]
theorem Z5W {a : List Int} (ha : Ws a) (j s : Nat) (hs : s < 64) : val a / 2 ^ (64 * j + s) % 2 = (a.getD j 0).toNat / 2 ^ s % 2 := by
 have e : 2 ^ (64 * j + s) = 18446744073709551616 ^ j * 2 ^ s := by rw [Nat.pow_add, Nat.pow_mul]
 by_cases h : j < a.length
 ·have ht := Z1g ha j
  obtain ⟨h1, _⟩ := Z5M (S := 2 ^ s) ht (Z0u a j (Nat.le_of_lt h))
  rw [e, h1, Z1f a j h]
  have hp : 0 < 2 ^ s := Nat.pow_pos (by decide)
  have e2 : (18446744073709551616 : Nat) = 2 ^ s * (2 * 2 ^ (63 - s)) := by
   have := Z0g (show s ≤ 64 by omega)
   have e3 : 64 - s = (63 - s) + 1 := by omega
   rw [e3, Nat.pow_succ, Nat.mul_comm _ 2] at this
   exact this.symm
  generalize (a.getD j 0).toNat = w
  generalize val (a.drop (j + 1)) = r
  have e4 : (w + 18446744073709551616 * r) / 2 ^ s = w / 2 ^ s + 2 * 2 ^ (63 - s) * r := by
   have : w + 18446744073709551616 * r = w + 2 ^ s * (2 * 2 ^ (63 - s) * r) := by rw [← Nat.mul_assoc, ← e2]
   rw [this, Nat.add_mul_div_left _ _ hp]
  rw [e4, Nat.mul_assoc]
  omega
 rw [Z14 a j (by omega), e]
 have : val a < 18446744073709551616 ^ j := Nat.lt_of_lt_of_le (Z0B ha) (Nat.pow_le_pow_right (by decide) (by omega))
 rw [← Nat.div_div_eq_div_mul, Nat.div_eq_of_lt this]; simp
theorem Zao {w : Nat} (hw : w < 18446744073709551616) : Go.bits .and .u64 (w : Int) 1 = ((w % 2 : Nat) : Int) := by
 have h := u64_and_nat w 1 hw (by decide)
 have e : w &&& 1 = w % 2 := Nat.and_two_pow_sub_one_eq_mod w 1
 rw [e] at h; exact h
theorem Z5X (a : List Int) (ha : Ws a) (n : Nat) (hn : n < 9223372036854775808) : Z0U.f a n = some (decide (val a / 2 ^ n % 2 = 1)) := by
 unfold Z0U.f
 have e1 : wrap64 (Int.tdiv (n : Int) 64) = ((n / 64 : Nat) : Int) := by
  rw [Int.tdiv_eq_ediv_of_nonneg (by omega), Zc (by omega) (by omega)]; omega
 have e2 : IntKind.u64.wrap (Int.tmod (n : Int) 64) = ((n % 64 : Nat) : Int) := by
  rw [Int.tmod_eq_emod_of_nonneg (by omega), IntKind.wrap_u64]; omega
 have en : val a / 2 ^ n % 2 = (a.getD (n / 64) 0).toNat / 2 ^ (n % 64) % 2 := by
  have := Z5W ha (n / 64) (n % 64) (by omega)
  rw [Nat.div_add_mod] at this; exact this
 obtain ⟨p0, p1⟩ := Zw ha (n / 64)
 have ew := Z0s p0
 rw [en]
 generalize (a.getD (n / 64) 0).toNat = w at *
 have hs : n % 64 ≤ 64 := by omega
 have h2 : Int.tmod (((w / 2 ^ (n % 64) : Nat)) : Int) 2 = ((w / 2 ^ (n % 64) % 2 : Nat) : Int) := Z93 _ 2
 rw [if_pos (by omega), e1, Z5Q, Z0, e2, if_pos (Int.natCast_nonneg _), ew, Z1E _ _ hs, h2]
 generalize w / 2 ^ (n % 64) % 2 = z
 congr 1
 rw [Bool.eq_iff_iff]; simp; omega
theorem Zap (a : List Int) (i : Int) (k : Nat) (ha : Ws a) (hi : i < 9223372036854775808) (na : a.length < 17592186044000) (hk : a.length < k) :
  Z1O.f k a i = some (if val a < big then (if i < 0 then (false, 2) else (decide (val a / 2 ^ i.toNat % 2 = 1), 0)) else (false, 3)) := by
 unfold Z1O.f
 rw [Z23 a k ha (by omega) (by omega), Z0]
 by_cases h : val a < big
 ·simp only [if_pos h]
  rw [if_pos trivial]
  by_cases g : i < 0
  ·rw [if_pos g, if_pos g]
  obtain ⟨n, rfl⟩ : ∃ n : Nat, i = (n : Int) := ⟨i.toNat, by omega⟩
  have hl := Z05 h
  have e1 : wrap64 (Int.tdiv (n : Int) 64) = ((n / 64 : Nat) : Int) := by
   rw [Int.tdiv_eq_ediv_of_nonneg (by omega), Zc (by omega) (by omega)]; omega
  have e2 : Int.tmod (n : Int) 64 = ((n % 64 : Nat) : Int) := by
   rw [Int.tmod_eq_emod_of_nonneg (by omega)]; omega
  have hs : n % 64 ≤ 64 := by omega
  have en : val (ofN (val a)) / 2 ^ n % 2 = ((ofN (val a)).getD (n / 64) 0).toNat / 2 ^ (n % 64) % 2 := by
   have := Z5W (Zf (val a)) (n / 64) (n % 64) (by omega)
   rw [Nat.div_add_mod] at this; exact this
  rw [Z1] at en
  rw [if_neg g, if_neg g, Int.toNat_natCast, e1, e2, en]
  generalize hq : n / 64 = q at *
  by_cases c : q < (ofN (val a)).length
  ·obtain ⟨p0, p1⟩ := Zw (Zf (val a)) q
   have ew := Z0s p0
   have cc : ((q : Nat) : Int) < ((ofN (val a)).length : Int) := by omega
   rw [if_pos cc, if_pos (Int.natCast_nonneg _), if_pos (Int.natCast_nonneg _), Zr]
   generalize ((ofN (val a)).getD q 0).toNat = w at *
   have w1 : w < 18446744073709551616 := Int.ofNat_lt.1 (ew ▸ p1)
   rw [ew, Z1E _ _ hs, Zao (Nat.lt_of_le_of_lt (Nat.div_le_self _ _) w1)]
   generalize w / 2 ^ (n % 64) % 2 = z
   congr 2
   rw [Bool.eq_iff_iff]; simp; omega
  rw [if_neg (by omega), Z14 _ _ (by omega)]
  simp
 simp only [if_neg h]
 rw [if_neg (by decide)]
theorem Z9G (a : List Int) (k : Nat) (ha : Ws a) (na : a.length < 17592186044000) (hk : a.length < k) : Z1I.f k a = some (if val a < big then (ofN (val a), 0) else ([], 3)) := by
 unfold Z1I.f
 rw [Z23 a k ha (by omega) (by omega), Z0]
 by_cases h : val a < big
 ·have hl := Z05 h
  have ho := Z1F (ofN (val a)) (by omega)
  simp only [if_pos h]
  rw [if_pos trivial, ho, Z0]
 simp only [if_neg h]
 rw [if_neg (by decide)]
theorem Z5k (w k : Nat) (hw : w < 18446744073709551616) (hk : 1 < k) : Z1i.f k w = some (ofN w) := by
 unfold Z1i.f
 have : val [(w : Int)] = w := by simp [val]
 have l1 : (ofN w).length ≤ 1 := (ZX w 1).2 hw
 have ho := Z1F (ofN w) (by omega)
 rw [Z15 1 _ k rfl (Z1j.2 ⟨by omega, Z1x⟩) (by decide) hk, Z0, this, ho, Z0]
theorem Z3R (v k : Nat) (hl : (ofN v).length ≤ 1024) (hk : 1 < k) : Z0w.f k (ofN v) = some ((bl v : Nat) : Int) := by
 unfold Z0w.f
 by_cases h : v = 0
 ·have := Z0e.2 h
  rw [if_pos (by omega), h, Z0z]; rfl
 obtain ⟨m, w, h1, h2, h3, h4, h5⟩ := Z3O h
 have hb := Z2c h4
 have e1 : wrap64 (((ofN v).length : Int) - 1) = (m : Int) := by rw [Zc (by omega) (by omega)]; omega
 have c0 : ¬ ((ofN v).length : Int) = 0 := by clear e1; omega
 have c1 : (m : Int) < ((ofN v).length : Int) := by clear e1; omega
 have e2 : wrap64 (64 * (m : Int)) = ((64 * m : Nat) : Int) := by clear e1; rw [Zc (by omega) (by omega)]; omega
 have e3 : wrap64 (((64 * m : Nat) : Int) + ((bl w : Nat) : Int)) = ((64 * m + bl w : Nat) : Int) := by clear e1 e2; rw [Zc (by omega) (by omega)]; omega
 rw [if_neg c0, e1, if_pos (Int.natCast_nonneg _), if_pos c1, Zr, h5, Z5d k w h4 hk, Z0, e2, e3, h2]
theorem Z3S (a : List Int) (k : Nat) (ha : Ws a) (na : a.length < 17592186044000) (hk : a.length + 1 < k) : Z0Q.f k a = some (if val a < big then (((bl (val a) : Nat) : Int), 0) else (0, 3)) := by
 unfold Z0Q.f
 rw [Z23 a k ha (by omega) (by omega), Z0]
 by_cases h : val a < big
 ·simp only [if_pos h]
  rw [Z3R _ k (Z05 h) (by omega), Z0]
 simp only [if_neg h]
 have := Z3R 0 k (by rw [Zv]; decide) (by omega)
 rw [Zv, Z0z] at this
 rw [this, Z0]; rfl
theorem Z3F (v : Nat) (e : Int) (hl : (ofN v).length ≤ 1024) (s : Nat) : ∀ (i k : Nat), (ofN v).length - i = s → i ≤ (ofN v).length → s < k → val ((ofN v).take i) = 0 →
  (v = 0 → Z0l.l0 k e (ofN v) (ofN v).length i = some (0, e)) ∧ (∀ t m : Nat, v = 2 ^ t * (2 * m + 1) → Z0l.l0 k e (ofN v) (ofN v).length i = some ((t : Int), e)) := by
 induction s with
 | zero =>
  intro i k hs hi hk hz
  obtain ⟨k, rfl⟩ : ∃ z, k = z + 1 := ⟨k - 1, by omega⟩
  obtain rfl : i = (ofN v).length := by omega
  rw [Z6 _ _ (Nat.le_refl _), Z1] at hz
  have g : Z0l.l0 (k + 1) e (ofN v) (ofN v).length ((ofN v).length : Nat) = some (0, e) := by
   simp only [Z0l.l0]; rw [if_neg (by omega)]
  refine ⟨fun _ => g, fun t m ht => ?_⟩
  have : 0 < 2 ^ t * (2 * m + 1) := Nat.mul_pos (Nat.pow_pos (by decide)) (by omega)
  omega
 | succ s ih =>
  intro i k hs hi hk hz
  obtain ⟨k, rfl⟩ : ∃ z, k = z + 1 := ⟨k - 1, by omega⟩
  have i1 : (ofN v).length - (i + 1) = s := by omega
  have i2 : i + 1 ≤ (ofN v).length := by omega
  have i3 : s < k := by omega
  have g1 : (i : Int) < ((ofN v).length : Int) := by omega
  have b3 : i < 4611686018427387904 := by omega
  have i5 : i < (ofN v).length := by omega
  obtain ⟨p0, p1⟩ := Zw (Zf v) i
  have ew := Z0s p0
  have ts := Zp (ofN v) i i5
  have td := Z0u (ofN v) i (Nat.le_of_lt i5)
  have vd := Z1f (ofN v) i i5
  rw [hz] at ts td
  rw [Z1, vd] at td
  simp only [Z0l.l0]
  rw [if_pos g1, if_pos (Int.natCast_nonneg _), if_pos g1, Zr]
  generalize hwn : ((ofN v).getD i 0).toNat = w at *
  by_cases h : w = 0
  ·have := ih (i + 1) k i1 i2 i3 (by rw [ts, h]; simp)
   rw [if_pos (by rw [ew, h]; rfl), ZC b3]
   exact this
  have w1 : w < 18446744073709551616 := Int.ofNat_lt.1 (ew ▸ p1)
  obtain ⟨s', c, hc⟩ := Z0T w h
  obtain ⟨tz, ts64⟩ := Z5j hc w1
  have e2 : wrap64 (64 * (i : Int)) = ((64 * i : Nat) : Int) := by rw [Zc (by omega) (by omega)]; omega
  have e3 : wrap64 (((64 * i : Nat) : Int) + (s' : Int)) = ((64 * i + s' : Nat) : Int) := by clear e2; rw [Zc (by omega) (by omega)]; omega
  have hw0 : ¬ (w : Int) = 0 := by clear e2 e3; omega
  rw [ew, if_neg hw0, tz, Z0, e2, e3]
  clear e2 e3
  have hv : v = 2 ^ (64 * i + s') * (2 * (c + 2 ^ (63 - s') * val ((ofN v).drop (i + 1))) + 1) := by
   have eB : (18446744073709551616 : Nat) = 2 ^ s' * (2 * 2 ^ (63 - s')) := by
    have := Z0g (show s' ≤ 64 by omega)
    have e3 : 64 - s' = (63 - s') + 1 := by omega
    rw [e3, Nat.pow_succ, Nat.mul_comm _ 2] at this
    exact this.symm
   have eP : (18446744073709551616 : Nat) ^ i = 2 ^ (64 * i) := by rw [Nat.pow_mul]
   generalize val ((ofN v).drop (i + 1)) = R at *
   have e5 : w + 18446744073709551616 * R = 2 ^ s' * (2 * (c + 2 ^ (63 - s') * R) + 1) := by
    rw [eB, hc, Nat.mul_assoc, ← Nat.mul_add, Nat.mul_add 2 c, Nat.mul_assoc 2]
    congr 1; omega
   rw [Nat.zero_add, e5, eP, ← Nat.mul_assoc, ← Nat.pow_add] at td
   exact td
  refine ⟨fun z => ?_, fun t m ht => ?_⟩
  ·have : 0 < 2 ^ (64 * i + s') * (2 * (c + 2 ^ (63 - s') * val ((ofN v).drop (i + 1))) + 1) := Nat.mul_pos (Nat.pow_pos (by decide)) (by omega)
   omega
  have := Z2V (ht.symm.trans hv)
  rw [this]
theorem Z9H : 0 < big := by
 have h : ∀ m, 0 < 18446744073709551616 ^ m := pow_pos
 unfold big
 exact h 1024
theorem Zaq (a : List Int) (k : Nat) (ha : Ws a) (na : a.length < 17592186044000) (hk : a.length + 2000 < k) :
  (¬ val a < big → Z0l.f k a = some (0, 3)) ∧ (val a = 0 → Z0l.f k a = some (0, 0)) ∧ (val a < big → ∀ t m : Nat, val a = 2 ^ t * (2 * m + 1) → Z0l.f k a = some ((t : Int), 0)) := by
 unfold Z0l.f
 rw [Z23 a k ha (by omega) (by omega), Z0]
 refine ⟨fun h => ?_, fun h => ?_, fun h t m ht => ?_⟩
 ·simp only [if_neg h]
  have := (Z3F 0 3 (by rw [Zv]; decide) _ 0 k rfl (Nat.zero_le _) (by rw [Zv]; simp; omega) (by simp [val])).1 rfl
  rw [Zv] at this
  exact this
 ·have hb : val a < big := by rw [h]; exact Z9H
  simp only [if_pos hb]
  have := (Z3F 0 0 (by rw [Zv]; decide) _ 0 k rfl (Nat.zero_le _) (by rw [Zv]; simp; omega) (by simp [val])).1 rfl
  rw [h]
  exact this
 simp only [if_pos h]
 have hl := Z05 h
 exact (Z3F (val a) 0 hl _ 0 k rfl (Nat.zero_le _) (by omega) (by simp [val])).2 t m ht
theorem Z7n (a : List Int) (ha : Ws a) {t m : Nat} (hv : val a = 2 ^ t * (2 * m + 1)) (ht : t < 4611686018427387904) (s : Nat) : ∀ (n k : Nat), t - n = s → n ≤ t → s < k → Z01.l0 k a n = some (t : Int) := by
 induction s with
 | zero =>
  intro n k hs hn hk
  obtain ⟨k, rfl⟩ : ∃ z, k = z + 1 := ⟨k - 1, by omega⟩
  obtain rfl : n = t := by omega
  have := Z2d n m n (Nat.le_refl _)
  simp only [Z01.l0]
  rw [Z5X a ha n (by omega), Z0, hv, this, if_pos rfl]; rfl
 | succ s ih =>
  intro n k hs hn hk
  obtain ⟨k, rfl⟩ : ∃ z, k = z + 1 := ⟨k - 1, by omega⟩
  have := Z2d t m n hn
  rw [if_neg (by omega)] at this
  simp only [Z01.l0]
  rw [Z5X a ha n (by omega), Z0, hv, this, if_neg (by decide), ZC (by omega)]
  exact ih (n + 1) k (by omega) (by omega) (by omega)
theorem Z9I (a : List Int) (k : Nat) (ha : Ws a) {t m : Nat} (hv : val a = 2 ^ t * (2 * m + 1)) (ht : t < 4611686018427387904) (na : a.length < 17592186044000) (hk : a.length + t + 100 < k) : Z01.f k a = some (t : Int) := by
 unfold Z01.f
 have hp : 0 < 2 ^ t * (2 * m + 1) := Nat.mul_pos (Nat.pow_pos (by decide)) (by omega)
 have hb := Z1G (n := val a) (by omega)
 rw [Z4f a k ha na (by omega), Z0, if_neg (by omega)]
 exact Z7n a ha hv ht _ 0 k rfl (Nat.zero_le _) (by omega)
theorem Z5l {v t m : Nat} (h : v = 2 ^ t * (2 * m + 1)) : t < bl v := by
 have := Z17 v
 refine (Nat.pow_lt_pow_iff_right (a := 2) (by decide)).1 (Nat.lt_of_le_of_lt ?_ this)
 rw [h]; exact Nat.le_mul_of_pos_right _ (by omega)
theorem Z5Y : ofN 1 = [1] := by
 rw [Z1U (by decide)]
 have : (1 : Nat) / 18446744073709551616 = 0 := by decide
 rw [this, Zv]; rfl
theorem Z5Z {x y m n K : Nat} (hx : (ofN x).length ≤ m) (hy : (ofN y).length ≤ n) (hK : m + n = K) : (ofN (x * y)).length ≤ K := by
 subst hK
 rw [ZX] at hx hy ⊢
 rw [Nat.pow_add]; exact Nat.mul_lt_mul_of_lt_of_le hx (Nat.le_of_lt hy) (pow_pos n)
theorem Z4D (x : Int) : 0 ≤ x * x := by
 rcases Int.le_total 0 x with h | h
 ·exact Int.mul_nonneg h h
 have := Int.mul_nonneg (Int.neg_nonneg.2 h) (Int.neg_nonneg.2 h); rwa [Int.neg_mul_neg] at this
theorem ZaX (x d r : Int) (h : 2 * r = x + d) : d * x ≤ r * r := by
 have q := Z4D (x - d)
 have e : (x - d) * (x - d) = 4 * (r * r) - 4 * (d * x) := by grind
 omega
theorem ZaY (x d r : Int) (h0 : 0 ≤ x) (h1 : 0 ≤ r) (h : 3 * r = 2 * x + d) : d * (x * x) ≤ r * r * r := by
 have q := Int.mul_nonneg (Z4D (x - r)) (show 0 ≤ r + 2 * x by omega)
 have e : (x - r) * (x - r) * (r + 2 * x) = r * r * r - d * (x * x) := by grind
 omega
theorem Z9J {a x r : Nat} (hx : 0 < x) (hr : r * r ≤ a) : 2 * r ≤ a / x + x := by
 by_cases h : 2 * r ≤ x
 ·exact Nat.le_trans h (Nat.le_add_left _ _)
 obtain ⟨d, hd⟩ : ∃ d, 2 * r = x + d := ⟨2 * r - x, by omega⟩
 have := ZaX x d r (by omega)
 have h2 : d * x ≤ a := by
  have h3 : ((d * x : Nat) : Int) ≤ ((r * r : Nat) : Int) := by simpa using this
  omega
 have := (Nat.le_div_iff_mul_le hx).2 h2
 omega
theorem Z9K {a x r : Nat} (hx : 0 < x) (hr : r * r * r ≤ a) : 3 * r ≤ a / (x * x) + 2 * x := by
 by_cases h : 3 * r ≤ 2 * x
 ·exact Nat.le_trans h (Nat.le_add_left _ _)
 obtain ⟨d, hd⟩ : ∃ d, 3 * r = 2 * x + d := ⟨3 * r - 2 * x, by omega⟩
 have := ZaY x d r (by omega) (by omega) (by omega)
 have h2 : d * (x * x) ≤ a := by
  have h3 : ((d * (x * x) : Nat) : Int) ≤ ((r * r * r : Nat) : Int) := by simpa using this
  omega
 have := (Nat.le_div_iff_mul_le (Nat.mul_pos hx hx)).2 h2
 omega
theorem Z5m {x y : Nat} (k : Nat) (hx : (ofN x).length ≤ 1024) (hy : (ofN y).length ≤ 1024) (hk : 2000000 < k) : Zd.f k (ofN x) (ofN y) = some (ofN (x * y)) := by
 have h1 : (ofN x).length * ((ofN y).length + 2) ≤ 1024 * 1026 := Nat.mul_le_mul hx (by omega)
 have h := Z9A (ofN x) (ofN y) k (Zf x) (Zf y) (by omega) (by omega)
 rw [Z1, Z1] at h; exact h
theorem Z6E {x : Nat} (k : Nat) (hx : (ofN x).length ≤ 1024) (hk : 2000000 < k) : Zd.f k [1] (ofN x) = some (ofN x) := by
 have h := Z5m (x := 1) (y := x) k (by rw [Z5Y]; decide) hx hk
 rw [Z5Y, Nat.one_mul] at h; exact h
theorem Z8B {x y : Nat} (k : Nat) (hx : (ofN x).length ≤ 2100) (hy : (ofN y).length ≤ 2100) (hk : 2000000 < k) : Za.f k (ofN x) (ofN y) = some (ofN (x + y)) := by
 have h := Z7d (ofN x) (ofN y) (Zf x) (Zf y) (by omega) (by omega) k (by omega)
 rw [Z1, Z1] at h; exact h
theorem Z7o {x : Nat} (k d : Nat) (hx : (ofN x).length ≤ 2100) (h0 : 0 < d) (hd : d < 10) (hk : 2000000 < k) : Zn.f k (ofN x) (d : Int) = some (ofN (x / d), ((x % d : Nat) : Int)) := by
 have h := Z5f (ofN x) (Zf x) d k h0 (by omega) (by omega) (by omega)
 rw [Z1] at h; exact h
theorem Z3m {a b : Nat} : Z1e a b ≥ 0 ↔ b ≤ a := by
 unfold Z1e
 by_cases h : a < b
 ·rw [if_pos h]; omega
 rw [if_neg h]
 by_cases g : a = b
 ·rw [if_pos g]; omega
 rw [if_neg g]; omega
theorem Z4i {x y m : Nat} (hx : (ofN x).length ≤ m) (hy : (ofN y).length ≤ m) : (ofN (x + y)).length ≤ m + 1 := by
 rw [ZX] at hx hy ⊢
 rw [Nat.pow_succ]; omega
theorem Z60 (k : Nat) (x0 : List Int) (x1 : Int) (x5 : List Int) : Z3.l0 (k + 1) x0 x1 x5 = Z3.l1 k x0 x1 x5 (([1] : List Int)) (wrap64 (x1 - 1)) 0 := by simp only [Z3.l0]
theorem Z2G (k : Nat) (x0 : List Int) (x1 : Int) (x5 x6 : List Int) (x24 x25 : Int) : Z3.l1 (k + 1) x0 x1 x5 x6 x24 x25 = if x25 < x24 then ((Zd.f k x6 x5).bind fun t484 => (Z3.l1 k x0 x1 x5 t484 x24 (wrap64 (x25 + 1)))) else ((Ze.f k x0 x6).bind fun bt487 => (Z3.l2 k x0 x1 x5 bt487.1 (wrap64 (x1 - 1)) 0)) := by simp only [Z3.l1]
theorem Z2H (k : Nat) (x0 : List Int) (x1 : Int) (x5 x9 : List Int) (x39 x40 : Int) : Z3.l2 (k + 1) x0 x1 x5 x9 x39 x40 = if x40 < x39 then ((Za.f k x9 x5).bind fun t493 => (Z3.l2 k x0 x1 x5 t493 x39 (wrap64 (x40 + 1)))) else ((Zn.f k x9 (IntKind.u64.wrap (x1))).bind fun bt496 => ((Zs.f k bt496.1 x5).bind fun t500 => (if t500 ≥ 0 then (some x5) else (Z3.l0 k x0 x1 bt496.1)))) := by simp only [Z3.l2]
theorem Z1y (k : Nat) (x7 x9 x10 : List Int) (x23 x24 : Int) : Z07.l0 (k + 1) x7 x9 x10 x23 x24 = if x24 < x23 then ((Zd.f k x10 x9).bind fun t521 => (Z07.l0 k x7 x9 t521 x23 (wrap64 (x24 + 1)))) else ((Zm.f x9).bind fun t524 => ((ZA.f k x7 x10).bind fun t527 => ((Zm.f t527).bind fun t530 => (some (t524, t530, 0))))) := by simp only [Z07.l0]
theorem Z6F (a x k : Nat) (ha : (ofN a).length ≤ 1024) (hx0 : 0 < x) (hx : (ofN x).length ≤ 1024) (hk : 3000000 < k) :
  Z3.l0 (k + 5) (ofN a) 2 (ofN x) = if x ≤ (a / x + x) / 2 then some (ofN x) else Z3.l0 k (ofN a) 2 (ofN ((a / x + x) / 2)) := by
 have w1 : wrap64 ((2 : Int) - 1) = 1 := by rw [Zc (by decide) (by decide)]; rfl
 have w2 : wrap64 ((0 : Int) + 1) = 1 := by rw [Zc (by decide) (by decide)]; rfl
 have w3 : IntKind.u64.wrap (2 : Int) = ((2 : Nat) : Int) := by decide
 have lq : (ofN (a / x)).length ≤ 1024 := Nat.le_trans (ZY (Nat.div_le_self _ _)) ha
 have ls : (ofN (a / x + x)).length ≤ 1025 := Z4i lq hx
 have ln : (ofN ((a / x + x) / 2)).length ≤ 1025 := Nat.le_trans (ZY (Nat.div_le_self _ _)) ls
 rw [Z60]
 rw [Z2G]
 rw [w1, w2, if_pos (by decide), Z6E (k + 3) hx (by omega), Z0]
 rw [Z2G]
 rw [if_neg (by decide), Z5i a x (k + 2) (by omega) ha hx (by omega), Z0]
 rw [Z2H]
 rw [w1, w2, if_pos (by decide), Z8B (k + 1) (by omega) (by omega) (by omega), Z0]
 rw [Z2H]
 rw [if_neg (by decide), w3, Z7o k 2 (by omega) (by decide) (by decide) (by omega), Z0]
 simp only []
 rw [Z55 _ _ k (by omega) (by omega), Z0]
 by_cases h : x ≤ (a / x + x) / 2
 ·rw [if_pos h, if_pos (Z3m.2 h)]
 rw [if_neg h, if_neg (fun q => h (Z3m.1 q))]
theorem Z6G (a x k : Nat) (ha : (ofN a).length ≤ 1024) (hx0 : 0 < x) (hx : (ofN x).length ≤ 512) (hk : 3000000 < k) :
  Z3.l0 (k + 7) (ofN a) 3 (ofN x) = if x ≤ (a / (x * x) + x + x) / 3 then some (ofN x) else Z3.l0 k (ofN a) 3 (ofN ((a / (x * x) + x + x) / 3)) := by
 have w1 : wrap64 ((3 : Int) - 1) = 2 := by rw [Zc (by decide) (by decide)]; rfl
 have w2 : wrap64 ((0 : Int) + 1) = 1 := by rw [Zc (by decide) (by decide)]; rfl
 have w4 : wrap64 ((1 : Int) + 1) = 2 := by rw [Zc (by decide) (by decide)]; rfl
 have w3 : IntKind.u64.wrap (3 : Int) = ((3 : Nat) : Int) := by decide
 have lx : (ofN (x * x)).length ≤ 1024 := Z5Z hx hx (by omega)
 have px : 0 < x * x := Nat.mul_pos hx0 hx0
 have lq : (ofN (a / (x * x))).length ≤ 1024 := Nat.le_trans (ZY (Nat.div_le_self _ _)) ha
 have ls : (ofN (a / (x * x) + x)).length ≤ 1025 := Z4i lq (by omega)
 have ls2 : (ofN (a / (x * x) + x + x)).length ≤ 1026 := Z4i ls (by omega)
 have ln : (ofN ((a / (x * x) + x + x) / 3)).length ≤ 1026 := Nat.le_trans (ZY (Nat.div_le_self _ _)) ls2
 rw [Z60]
 rw [Z2G]
 rw [w1, w2, if_pos (by decide), Z6E (k + 5) (by omega) (by omega), Z0]
 rw [Z2G]
 rw [w4, if_pos (by decide), Z5m (k + 4) (by omega) (by omega) (by omega), Z0]
 rw [Z2G]
 rw [if_neg (by decide), Z5i a (x * x) (k + 3) (by omega) ha lx (by omega), Z0]
 rw [Z2H]
 rw [w1, w2, if_pos (by decide), Z8B (k + 2) (by omega) (by omega) (by omega), Z0]
 rw [Z2H]
 rw [w4, if_pos (by decide), Z8B (k + 1) (by omega) (by omega) (by omega), Z0]
 rw [Z2H]
 rw [if_neg (by decide), w3, Z7o k 3 (by omega) (by decide) (by decide) (by omega), Z0]
 simp only []
 rw [Z55 _ _ k (by omega) (by omega), Z0]
 by_cases h : x ≤ (a / (x * x) + x + x) / 3
 ·rw [if_pos h, if_pos (Z3m.2 h)]
 rw [if_neg h, if_neg (fun q => h (Z3m.1 q))]
def IsR (P : Nat → Nat) (a s : Nat) : Prop := P s ≤ a ∧ ∀ r, P r ≤ a → r ≤ s
theorem Z6H (a : Nat) (ha0 : 0 < a) (ha : (ofN a).length ≤ 1024) (x : Nat) : ∀ k, 0 < x → (ofN x).length ≤ 1024 → (∀ r, r * r ≤ a → r ≤ x) → 5 * x + 4000000 < k →
  ∃ s, Z3.l0 k (ofN a) 2 (ofN x) = some (ofN s) ∧ IsR (fun r => r * r) a s ∧ s ≤ x := by
 induction x using Nat.strongRecOn with
 | _ x ih =>
  intro k hx hl hr hk
  obtain ⟨k, rfl⟩ : ∃ m, k = m + 5 := ⟨k - 5, by omega⟩
  have st := Z6F a x k ha hx hl (by omega)
  by_cases h : x ≤ (a / x + x) / 2
  ·rw [if_pos h] at st
   refine ⟨x, st, ⟨?_, hr⟩, Nat.le_refl _⟩
   have : x ≤ a / x := by omega
   exact (Nat.le_div_iff_mul_le hx).1 this
  rw [if_neg h] at st
  have hr2 : ∀ r, r * r ≤ a → r ≤ (a / x + x) / 2 := fun r e => by have := Z9J hx e; omega
  have h1 := hr2 1 (by omega)
  obtain ⟨s, e, i, l⟩ := ih ((a / x + x) / 2) (by omega) k (by omega) (Nat.le_trans (ZY (by omega)) hl) hr2 (by omega)
  exact ⟨s, st.trans e, i, by omega⟩
theorem Z6I (a : Nat) (ha0 : 0 < a) (ha : (ofN a).length ≤ 1024) (x : Nat) : ∀ k, 0 < x → (ofN x).length ≤ 512 → (∀ r, r * r * r ≤ a → r ≤ x) → 7 * x + 4000000 < k →
  ∃ s, Z3.l0 k (ofN a) 3 (ofN x) = some (ofN s) ∧ IsR (fun r => r * r * r) a s ∧ s ≤ x := by
 induction x using Nat.strongRecOn with
 | _ x ih =>
  intro k hx hl hr hk
  obtain ⟨k, rfl⟩ : ∃ m, k = m + 7 := ⟨k - 7, by omega⟩
  have st := Z6G a x k ha hx hl (by omega)
  by_cases h : x ≤ (a / (x * x) + x + x) / 3
  ·rw [if_pos h] at st
   refine ⟨x, st, ⟨?_, hr⟩, Nat.le_refl _⟩
   have : x ≤ a / (x * x) := by omega
   have := (Nat.le_div_iff_mul_le (Nat.mul_pos hx hx)).1 this
   rw [← Nat.mul_assoc] at this; exact this
  rw [if_neg h] at st
  have hr2 : ∀ r, r * r * r ≤ a → r ≤ (a / (x * x) + x + x) / 3 := fun r e => by have := Z9K hx e; omega
  have h1 := hr2 1 (by omega)
  obtain ⟨s, e, i, l⟩ := ih ((a / (x * x) + x + x) / 3) (by omega) k (by omega) (Nat.le_trans (ZY (by omega)) hl) hr2 (by omega)
  exact ⟨s, st.trans e, i, by omega⟩
theorem Zar (m k : Nat) (hm : m ≤ 65536) (hk : 3000000 < k) : Z9.f k [1] (m : Int) = some (ofN (2 ^ m)) := by
 have h := Z2E [1] m k (Z1j.2 ⟨by omega, Z1x⟩) (by omega) (by simp) (by simp; omega) (by simp; omega)
 have v : val [1] = 1 := rfl
 rw [v, Nat.one_mul] at h; exact h
theorem Z5n {m n : Nat} (h : m < 64 * n) : (ofN (2 ^ m)).length ≤ n := by
 rw [ZX]
 have e : (18446744073709551616 : Nat) ^ n = 2 ^ (64 * n) := by rw [Nat.pow_mul]
 rw [e]; exact Nat.pow_lt_pow_right (by decide) h
theorem Zas {a m : Nat} (h : bl a ≤ 2 * m) : ∀ r, r * r ≤ a → r ≤ 2 ^ m := fun r e => by
 apply Classical.byContradiction; intro g
 have h1 : 2 ^ m * 2 ^ m < r * r := Nat.mul_lt_mul_of_lt_of_le (by omega) (by omega) (Nat.lt_of_le_of_lt (Nat.zero_le (2 ^ m)) (by omega))
 rw [← Nat.pow_add] at h1
 have h2 := Z17 a
 have h3 : 2 ^ bl a ≤ 2 ^ (m + m) := Nat.pow_le_pow_right (by decide) (by omega)
 omega
theorem Zat {a m : Nat} (h : bl a ≤ 3 * m) : ∀ r, r * r * r ≤ a → r ≤ 2 ^ m := fun r e => by
 apply Classical.byContradiction; intro g
 have h0 : 2 ^ m * 2 ^ m ≤ r * r := Nat.mul_le_mul (by omega) (by omega)
 have hp : 0 < 2 ^ m := Nat.pow_pos (by decide)
 have h1 : 2 ^ m * 2 ^ m * 2 ^ m ≤ r * r * 2 ^ m := Nat.mul_le_mul h0 (Nat.le_refl _)
 have h1' : r * r * 2 ^ m < r * r * r := Nat.mul_lt_mul_of_pos_left (by omega) (Nat.mul_pos (by omega) (by omega))
 rw [← Nat.pow_add, ← Nat.pow_add] at h1
 have h2 := Z17 a
 have h3 : 2 ^ bl a ≤ 2 ^ (m + m + m) := Nat.pow_le_pow_right (by decide) (by omega)
 omega
theorem Z8C (a k : Nat) (ha : (ofN a).length ≤ 1024) (hb : bl a ≤ 65536) (hk : 5 * 2 ^ ((bl a + 1) / 2) + 5000000 < k) :
  ∃ s, Z3.f k (ofN a) 2 = some (ofN s) ∧ IsR (fun r => r * r) a s := by
 unfold Z3.f
 by_cases h : a = 0
 ·subst h
  refine ⟨0, ?_, by simp, fun r hr => ?_⟩
  ·rw [Zv]; rfl
  have : r * r = 0 := by simpa using hr
  have := Nat.mul_eq_zero.1 this; omega
 have hl : ¬ ((ofN a).length : Int) = 0 := by have := Z0e (v := a); omega
 obtain ⟨m, hm⟩ : ∃ m, m = (bl a + 1) / 2 := ⟨_, rfl⟩
 rw [← hm] at hk
 have e1 : wrap64 (Int.tdiv (wrap64 (wrap64 (((bl a : Nat) : Int) + 2) - 1)) 2) = (m : Int) := by
  rw [Zc (x := ((bl a : Nat) : Int) + 2) (by omega) (by omega), Zc (x := ((bl a : Nat) : Int) + 2 - 1) (by omega) (by omega)]
  have : ((bl a : Nat) : Int) + 2 - 1 = ((bl a + 1 : Nat) : Int) := by omega
  rw [this, show (2 : Int) = ((2 : Nat) : Int) from rfl, Z4M, ← hm]
  exact Zc (by omega) (by omega)
 rw [if_neg hl, Z3R a k ha (by omega), Z0, if_neg (by decide), e1, Zar m k (by omega) (by omega), Z0]
 obtain ⟨s, e, i, _⟩ := Z6H a (by omega) ha (2 ^ m) k (Nat.pow_pos (by decide)) (Z5n (by omega)) (Zas (by omega)) (by omega)
 exact ⟨s, e, i⟩
theorem Z8D (a k : Nat) (ha : (ofN a).length ≤ 1024) (hb : bl a ≤ 65536) (hk : 7 * 2 ^ ((bl a + 2) / 3) + 5000000 < k) :
  ∃ s, Z3.f k (ofN a) 3 = some (ofN s) ∧ IsR (fun r => r * r * r) a s ∧ (ofN s).length ≤ 512 := by
 unfold Z3.f
 by_cases h : a = 0
 ·subst h
  refine ⟨0, ?_, ⟨by simp, fun r hr => ?_⟩, by rw [Zv]; decide⟩
  ·rw [Zv]; rfl
  have h1 : r * r * r = 0 := by simpa using hr
  have h2 := Nat.mul_eq_zero.1 h1
  rcases h2 with h2 | h2
  ·have := Nat.mul_eq_zero.1 h2; omega
  omega
 have hl : ¬ ((ofN a).length : Int) = 0 := by have := Z0e (v := a); omega
 obtain ⟨m, hm⟩ : ∃ m, m = (bl a + 2) / 3 := ⟨_, rfl⟩
 rw [← hm] at hk
 have e1 : wrap64 (Int.tdiv (wrap64 (wrap64 (((bl a : Nat) : Int) + 3) - 1)) 3) = (m : Int) := by
  rw [Zc (x := ((bl a : Nat) : Int) + 3) (by omega) (by omega), Zc (x := ((bl a : Nat) : Int) + 3 - 1) (by omega) (by omega)]
  have : ((bl a : Nat) : Int) + 3 - 1 = ((bl a + 2 : Nat) : Int) := by omega
  rw [this, show (3 : Int) = ((3 : Nat) : Int) from rfl, Z4M, ← hm]
  exact Zc (by omega) (by omega)
 have l2 : (ofN (2 ^ m)).length ≤ 512 := Z5n (by omega)
 rw [if_neg hl, Z3R a k ha (by omega), Z0, if_neg (by decide), e1, Zar m k (by omega) (by omega), Z0]
 obtain ⟨s, e, i, le⟩ := Z6I a (by omega) ha (2 ^ m) k (Nat.pow_pos (by decide)) l2 (Zat (by omega)) (by omega)
 exact ⟨s, e, i, Nat.le_trans (ZY le) l2⟩
theorem Z61 {a b : Nat} (h : (ofN a).length ≤ 1024) : (ofN (a - b)).length ≤ 1024 := Nat.le_trans (ZY (Nat.sub_le _ _)) h
theorem Z4j (a : List Int) (k : Nat) (ha : Ws a) (na : a.length < 17592186044000) (hk : 5 * 2 ^ ((bl (val a) + 1) / 2) + a.length + 6000000 < k) :
  (val a < big → ∃ s, Z0F.f k a = some (ofN s, ofN (val a - s * s), 0) ∧ IsR (fun r => r * r) (val a) s) ∧ (¬ val a < big → Z0F.f k a = some ([], [], 3)) := by
 unfold Z0F.f Z07.f
 rw [Z23 a k ha (by omega) (by omega), Z0]
 refine ⟨fun h => ?_, fun h => ?_⟩
 ·have la := Z05 h
  obtain ⟨s, e, i⟩ := Z8C (val a) k la (ZT.1 h) (by omega)
  have hs : s * s ≤ val a := i.1
  have hs1 : s ≤ val a := by
   rcases Nat.eq_zero_or_pos s with z | z
   ·omega
   exact Nat.le_trans (Nat.le_mul_of_pos_left s z) hs
  have ls : (ofN s).length ≤ 1024 := Nat.le_trans (ZY hs1) la
  have ls2 : (ofN (s * s)).length ≤ 1024 := Nat.le_trans (ZY hs) la
  refine ⟨s, ?_, i⟩
  obtain ⟨k, rfl⟩ : ∃ m, k = m + 3 := ⟨k - 3, by omega⟩
  have w2 : wrap64 ((0 : Int) + 1) = 1 := by rw [Zc (by decide) (by decide)]; rfl
  have w4 : wrap64 ((1 : Int) + 1) = 2 := by rw [Zc (by decide) (by decide)]; rfl
  simp only [if_pos h]
  rw [if_pos trivial, e, Z0]
  rw [Z1y]
  rw [w2, if_pos (by decide), Z6E (k + 2) ls (by omega), Z0]
  rw [Z1y]
  rw [w4, if_pos (by decide), Z5m (k + 1) ls ls (by omega), Z0]
  rw [Z1y]
  have o1 := Z1F (ofN s) (by omega)
  have l3 := Z61 (b := s * s) la
  have o2 := Z1F (ofN (val a - s * s)) (by omega)
  rw [if_neg (by decide), o1, Z0, Z7e (val a) (s * s) hs k (by omega) (by omega), Z0, o2, Z0, Z0]
 simp only [if_neg h]
 rw [if_neg (by decide), Z0]
theorem Z9L (a : List Int) (k : Nat) (ha : Ws a) (na : a.length < 17592186044000) (hk : 7 * 2 ^ ((bl (val a) + 2) / 3) + a.length + 6000000 < k) :
  (val a < big → ∃ s, Z1d.f k a = some (ofN s, ofN (val a - s * s * s), 0) ∧ IsR (fun r => r * r * r) (val a) s ∧ (ofN s).length ≤ 512) ∧ (¬ val a < big → Z1d.f k a = some ([], [], 3)) := by
 unfold Z1d.f Z07.f
 rw [Z23 a k ha (by omega) (by omega), Z0]
 refine ⟨fun h => ?_, fun h => ?_⟩
 ·have la := Z05 h
  obtain ⟨s, e, i, ls⟩ := Z8D (val a) k la (ZT.1 h) (by omega)
  have hs : s * s * s ≤ val a := i.1
  have ls2 : (ofN (s * s)).length ≤ 1024 := Z5Z ls ls (by omega)
  have ls3 : (ofN (s * s * s)).length ≤ 1024 := Nat.le_trans (ZY hs) la
  refine ⟨s, ?_, i, ls⟩
  obtain ⟨k, rfl⟩ : ∃ m, k = m + 4 := ⟨k - 4, by omega⟩
  have w2 : wrap64 ((0 : Int) + 1) = 1 := by rw [Zc (by decide) (by decide)]; rfl
  have w4 : wrap64 ((1 : Int) + 1) = 2 := by rw [Zc (by decide) (by decide)]; rfl
  have w5 : wrap64 ((2 : Int) + 1) = 3 := by rw [Zc (by decide) (by decide)]; rfl
  simp only [if_pos h]
  rw [if_pos trivial, e, Z0]
  rw [Z1y]
  rw [w2, if_pos (by decide), Z6E (k + 3) (by omega) (by omega), Z0]
  rw [Z1y]
  rw [w4, if_pos (by decide), Z5m (k + 2) (by omega) (by omega) (by omega), Z0]
  rw [Z1y]
  rw [w5, if_pos (by decide), Z5m (k + 1) ls2 (by omega) (by omega), Z0]
  rw [Z1y]
  have o1 := Z1F (ofN s) (by omega)
  have l3 := Z61 (b := s * s * s) la
  have o2 := Z1F (ofN (val a - s * s * s)) (by omega)
  rw [if_neg (by decide), o1, Z0, Z7e (val a) (s * s * s) hs k (by omega) (by omega), Z0, o2, Z0, Z0]
 simp only [if_neg h]
 rw [if_neg (by decide), Z0]
theorem Z7p (l : List Int) (hw : Ws l) (hn : l.length < 4611686018427387904) (n : Nat) : ∀ k, n ≤ l.length → n < k → Z5.l0 k l n = some (ofN (val (l.take n))) := by
 induction n with
 | zero =>
  intro k hj hk
  obtain ⟨k, rfl⟩ : ∃ m, k = m + 1 := ⟨k - 1, by omega⟩
  simp only [Z5.l0]
  rw [if_neg (by omega), if_pos (by omega), if_pos (by omega)]
  simp [val, Zv]
 | succ n ih =>
  intro k hj hk
  obtain ⟨k, rfl⟩ : ∃ m, k = m + 1 := ⟨k - 1, by omega⟩
  simp only [Z5.l0]
  have e : wrap64 (((n + 1 : Nat) : Int) - 1) = (n : Int) := by rw [Zc (by omega) (by omega)]; omega
  rw [e, if_pos (by omega), if_pos (by omega), if_pos (by omega), Zr]
  by_cases h : l.getD n 0 = 0
  ·rw [if_pos h, ih k (by omega) (by omega), Zp l n (by omega), h]; simp
  rw [if_neg h, if_pos (by omega), if_pos (by omega), Int.toNat_natCast, ← Z3E hw (by omega) h]
theorem Z0W (l : List Int) (k : Nat) (hw : Ws l) (hn : l.length < 4611686018427387904) (hk : l.length < k) : Z5.f k l = some (ofN (val l)) := by
 unfold Z5.f
 rw [Z7p l hw hn _ k (Nat.le_refl _) hk, Z6 _ _ (Nat.le_refl _)]
theorem Z7q (x y : List Int) (hx : Ws x) (hy : Ws y) (e : x.length = y.length) (hn : x.length < 4611686018427387904) (j : Nat) : ∀ (k : Nat), j ≤ x.length → j < k →
  Z0k.l0 k x y ((j : Int) - 1) = some (Z1e (val (x.take j)) (val (y.take j))) := by
 induction j with
 | zero =>
  intro k hj hk
  obtain ⟨k, rfl⟩ : ∃ m, k = m + 1 := ⟨k - 1, by omega⟩
  simp only [Z0k.l0]
  rw [if_neg (by omega)]
  simp [val, Z1e]
 | succ j ih =>
  intro k hj hk
  obtain ⟨k, rfl⟩ : ∃ m, k = m + 1 := ⟨k - 1, by omega⟩
  have e0 : ((j + 1 : Nat) : Int) - 1 = (j : Int) := by omega
  have e1 : wrap64 ((j : Int) - 1) = (j : Int) - 1 := Zc (by omega) (by omega)
  have q1 := Zw hx j
  have q2 := Zw hy j
  have p1 : val (x.take j) < 18446744073709551616 ^ j := Z1g hx j
  have p2 : val (y.take j) < 18446744073709551616 ^ j := Z1g hy j
  simp only [Z0k.l0]
  rw [e0, if_pos (by omega), if_pos (by omega), if_pos (by omega), if_pos (by omega), Zr, Zr, e1, ih k (by omega) (by omega), Zp x j (by omega), Zp y j (by omega), Z4T p1 p2]
  by_cases a : x.getD j 0 = y.getD j 0
  ·rw [if_pos a, a, if_neg (by omega), if_neg (by omega)]
  rw [if_neg a]
  by_cases b : x.getD j 0 < y.getD j 0
  ·rw [if_pos b, if_pos (by omega)]
  rw [if_neg b, if_neg (by omega), if_pos (by omega)]
theorem Z9M (a b : List Int) (k : Nat) (ha : Ws a) (hb : Ws b) (na : a.length < 17592186044000) (nb : b.length < 17592186044000) (hk : a.length + b.length < k) : Z0k.f k a b = some (Z1e (val a) (val b)) := by
 unfold Z0k.f
 rw [Z0W a k ha (by omega) (by omega), Z0, Z0W b k hb (by omega) (by omega), Z0]
 have hla : (ofN (val a)).length ≤ a.length := (ZX _ _).2 (Z0B ha)
 by_cases e : (ofN (val a)).length = (ofN (val b)).length
 ·have w : wrap64 (((ofN (val a)).length : Int) - 1) = ((ofN (val a)).length : Int) - 1 := Zc (by omega) (by omega)
  rw [if_pos (by omega), w, Z7q _ _ (Zf _) (Zf _) e (by omega) _ k (Nat.le_refl _) (by omega), Z6 _ _ (Nat.le_refl _), Z6 _ _ (by omega), Z1, Z1]
 rw [if_neg (by omega)]
 by_cases l : (ofN (val a)).length < (ofN (val b)).length
 ·have := Z2i l
  rw [if_pos (by omega)]; unfold Z1e; rw [if_pos this]
 have := Z2i (show (ofN (val b)).length < (ofN (val a)).length by omega)
 rw [if_neg (by omega)]; unfold Z1e; rw [if_neg (by omega), if_neg (by omega)]
theorem Z7r (k : Nat) : ∀ a b o c n j, Zz.l0 k a b o c n j = Zz.l100 k a b o c n j := by
 induction k with
 | zero => intro a b o c n j; simp only [Zz.l0, Zz.l100]
 | succ k ih => intro a b o c n j; simp only [Zz.l0, Zz.l100, ih]
theorem Z4E (a b : List Int) (ha : Ws a) (hb : Ws b) (na : a.length < 4611686018427387900) (nb : b.length ≤ a.length) (r : Nat) : ∀ (j : Nat) (k : Nat) (o : List Int) (c : Nat), a.length - j = r → j ≤ a.length → r + a.length + 2 < k → o.length = a.length + 1 → Ws o → c ≤ 1 →
  val (o.take j) + 18446744073709551616 ^ j * c = val (a.take j) + val (b.take j) →
  Zz.l100 k a b o c a.length j = some (ofN (val a + val b)) := by
 induction r with
 | zero =>
  intro j k o c hr hj hk ho hw hc hv
  obtain ⟨k, rfl⟩ : ∃ m, k = m + 1 := ⟨k - 1, by omega⟩
  obtain rfl : j = a.length := by omega
  simp only [Zz.l100]
  rw [if_neg (by omega), if_pos (by omega), if_pos (by omega), Int.toNat_natCast]
  rw [Z0W _ k (Z0A hw _ (by omega) (by omega)) (by rw [List.length_set]; omega) (by rw [List.length_set]; omega), Z0]
  have e := Z02 o a.length (c : Int) (by omega)
  rw [Z6 _ (a.length + 1) (by rw [List.length_set]; omega), Int.toNat_natCast] at e
  rw [Z6 a _ (Nat.le_refl _), Z6 b _ nb] at hv
  rw [e, hv]
 | succ r ih =>
  intro j k o c hr hj hk ho hw hc hv
  obtain ⟨k, rfl⟩ : ∃ m, k = m + 1 := ⟨k - 1, by omega⟩
  simp only [Zz.l100]
  have i5 : ¬ (j : Int) < (b.length : Int) → 0 = b.getD j 0 := fun h => (Z14 _ _ (by omega)).symm
  have i4 : j < o.length := by omega
  have i1 : a.length - (j + 1) = r := by omega
  have i2 : j + 1 ≤ a.length := by omega
  have i3 : r + a.length + 2 < k := by omega
  have pa := Zw ha j; have pb := Zw hb j
  have t1 : (j : Int) < (a.length : Int) := by omega
  have t2 : (0 : Int) ≤ (j : Int) := by omega
  have t3 : (c : Int) ≤ 1 := by omega
  have t4 : (j : Int) < (o.length : Int) := by omega
  have wj : wrap64 ((j : Int) + 1) = ((j + 1 : Nat) : Int) := by rw [Zc (by omega) (by omega)]; omega
  have key : ∀ y : Int, 0 ≤ y → y < 18446744073709551616 → y = b.getD j 0 →
    Zz.l100 k a b (o.set j (add64s (a.getD j 0) y c)) (add64c (a.getD j 0) y c) a.length ((j + 1 : Nat) : Int) = some (ofN (val a + val b)) := by
   intro y y0 y1 hy
   obtain ⟨d, hd, ed⟩ := Z4d (x := a.getD j 0) (y := y) (c := c) pa.2 y1 hc
   rw [ed]
   have hs : (add64s (a.getD j 0) y c).toNat + 18446744073709551616 * d = (a.getD j 0).toNat + y.toNat + c := by
    rw [Z26]; rw [Z2y] at ed
    simp only [Int.toNat_natCast] at ed ⊢
    omega
   refine ih (j + 1) k _ d i1 i2 i3 (by rw [List.length_set]; exact ho) (Z0A hw _ (Z4b _ _ _) (Z4c _ _ _)) hd ?_
   rw [Z02 o j _ i4, Zx a, Zx b, ← hy, Nat.pow_succ]
   exact Z2k hs hv
  rw [if_pos t1]
  by_cases h : (j : Int) < (b.length : Int)
  ·rw [if_pos h, if_pos t2, if_pos t1, if_pos t3, if_pos t4, Zr, Zr, Int.toNat_natCast, wj]; exact key _ pb.1 pb.2 rfl
  rw [if_neg h, if_pos t2, if_pos t1, if_pos t3, if_pos t4, Zr, Int.toNat_natCast, wj]; exact key 0 (Int.le_refl 0) (by decide) (i5 h)
theorem Z9N (a b : List Int) (ha : Ws a) (hb : Ws b) (na : a.length < 17592186044000) (nb : b.length < 17592186044000) (k : Nat) (hk : 2 * (a.length + b.length) + 3 < k) : Zz.f k a b = some (ofN (val a + val b)) := by
 have z : ∀ n, val ((List.replicate n (0 : Int)).take 0) + 18446744073709551616 ^ 0 * 0 = 0 := fun n => by simp [val]
 unfold Zz.f
 by_cases h : (a.length : Int) < (b.length : Int)
 ·have w : wrap64 ((b.length : Int) + 1) = ((b.length + 1 : Nat) : Int) := by rw [Zc (by omega) (by omega)]; omega
  rw [if_pos h, w, if_pos (by omega), Int.toNat_natCast, if_pos (by omega), Z7r]
  have t := Z4E b a hb ha (by omega) (by omega) b.length 0 k (List.replicate (b.length + 1) 0) 0 (by omega) (by omega) (by omega) (by simp) (Z0d _) (by omega) (by simp [val])
  rw [Nat.add_comm (val a)]; exact t
 have w : wrap64 ((a.length : Int) + 1) = ((a.length + 1 : Nat) : Int) := by rw [Zc (by omega) (by omega)]; omega
 rw [if_neg h, w, if_pos (by omega), Int.toNat_natCast, if_pos (by omega)]
 exact Z4E a b ha hb (by omega) (by omega) a.length 0 k (List.replicate (a.length + 1) 0) 0 (by omega) (by omega) (by omega) (by simp) (Z0d _) (by omega) (by simp [val])
theorem Z7s (a b : List Int) (ha : Ws a) (hb : Ws b) (na : a.length < 4611686018427387904) (hle : val b ≤ val a) (hl : b.length ≤ a.length) (r : Nat) : ∀ (j : Nat) (k : Nat) (o : List Int) (c : Nat), a.length - j = r → j ≤ a.length → r + a.length + 2 < k → o.length = a.length → Ws o → c ≤ 1 →
  val (a.take j) + 18446744073709551616 ^ j * c = val (o.take j) + val (b.take j) →
  Z09.l0 k a b o c a.length j = some (ofN (val a - val b)) := by
 induction r with
 | zero =>
  intro j k o c hr hj hk ho hw hc hv
  obtain ⟨k, rfl⟩ : ∃ m, k = m + 1 := ⟨k - 1, by omega⟩
  obtain rfl : j = a.length := by omega
  simp only [Z09.l0]
  rw [if_neg (by omega), Z0W _ k hw (by omega) (by omega), Z0]
  have := Z0B hw
  rw [ho] at this
  rw [Z6 _ _ (by omega), Z6 _ _ (by omega), Z6 _ _ (by omega)] at hv
  generalize 18446744073709551616 ^ a.length = p at *
  have : c = 0 := by
   rcases Nat.lt_or_ge c 1 with h | h
   ·omega
   have : c = 1 := by omega
   subst this; omega
  subst this
  rw [Nat.mul_zero] at hv
  congr 2; omega
 | succ r ih =>
  intro j k o c hr hj hk ho hw hc hv
  obtain ⟨k, rfl⟩ : ∃ m, k = m + 1 := ⟨k - 1, by omega⟩
  simp only [Z09.l0]
  have i5 : ¬ (j : Int) < (b.length : Int) → 0 = b.getD j 0 := fun h => (Z14 _ _ (by omega)).symm
  have i4 : j < o.length := by omega
  have i1 : a.length - (j + 1) = r := by omega
  have i2 : j + 1 ≤ a.length := by omega
  have i3 : r + a.length + 2 < k := by omega
  have pa := Zw ha j; have pb := Zw hb j
  have t1 : (j : Int) < (a.length : Int) := by omega
  have t2 : (0 : Int) ≤ (j : Int) := by omega
  have t3 : (c : Int) ≤ 1 := by omega
  have t4 : (j : Int) < (o.length : Int) := by omega
  have wj : wrap64 ((j : Int) + 1) = ((j + 1 : Nat) : Int) := ZC (by omega)
  have key : ∀ y : Int, 0 ≤ y → y < 18446744073709551616 → y = b.getD j 0 →
    Z09.l0 k a b (o.set j (sub64s (a.getD j 0) y c)) (sub64c (a.getD j 0) y c) a.length ((j + 1 : Nat) : Int) = some (ofN (val a - val b)) := by
   intro y y0 y1 hy
   obtain ⟨d, hd, ed, hs⟩ := Z2R pa.1 pa.2 y0 y1 hc
   rw [ed]
   refine ih (j + 1) k _ d i1 i2 i3 (by rw [List.length_set]; exact ho) (Z0A hw _ (Z3k _ _ _) (Z3l _ _ _)) hd ?_
   rw [Z02 o j _ i4, Zx a, Zx b, ← hy, Nat.pow_succ]
   exact Z2k hs hv
  rw [if_pos t1]
  by_cases h : (j : Int) < (b.length : Int)
  ·rw [if_pos h, if_pos t2, if_pos t1, if_pos t3, if_pos t4, Zr, Zr, Int.toNat_natCast, wj]; exact key _ pb.1 pb.2 rfl
  rw [if_neg h, if_pos t2, if_pos t1, if_pos t3, if_pos t4, Zr, Int.toNat_natCast, wj]; exact key 0 (Int.le_refl 0) (by decide) (i5 h)
theorem Z62 (a b : Nat) (h : b ≤ a) (k : Nat) (na : (ofN a).length < 17592186044000) (hk : 2 * (ofN a).length + 3 < k) : Z09.f k (ofN a) (ofN b) = some (ofN (a - b)) := by
 unfold Z09.f
 rw [if_pos (by omega), Int.toNat_natCast, if_pos (by omega)]
 have t := Z7s (ofN a) (ofN b) (Zf a) (Zf b) (by omega) (by rw [Z1, Z1]; exact h) (ZY h) (ofN a).length 0 k (List.replicate (ofN a).length 0) 0 (by omega) (by omega) (by omega) (by simp) (Z0d _) (by omega) (by simp [val])
 rw [Z1, Z1] at t; exact t
theorem Z7t (x y : Int) : add64s x y 0 = add64s y x 0 := by rw [Z26, Z26, Nat.add_comm x.toNat]
theorem Z7u (x y : Int) : add64c x y 0 = add64c y x 0 := by rw [Z2y, Z2y, Nat.add_comm x.toNat]
theorem ZaZ {o c p : Nat} (h : (o + c + p) / 18446744073709551616 < 18446744073709551616) :
  add64s (o : Int) (add64s ((p % 18446744073709551616 : Nat) : Int) (c : Int) 0) 0 = (((o + c + p) % 18446744073709551616 : Nat) : Int) ∧
  IntKind.u64.wrap ((IntKind.u64.wrap (((p / 18446744073709551616 : Nat) : Int) + add64c ((p % 18446744073709551616 : Nat) : Int) (c : Int) 0)) + add64c (o : Int) (add64s ((p % 18446744073709551616 : Nat) : Int) (c : Int) 0) 0) = (((o + c + p) / 18446744073709551616 : Nat) : Int) := by
 have e : c + o + p = o + c + p := by omega
 obtain ⟨m1, m2⟩ := Z7j (o := c) (c := o) (p := p) (by rw [e]; exact h)
 rw [Z7t (o : Int), Z7u (o : Int), m1, m2, e]
 exact ⟨rfl, rfl⟩
theorem Z6J (a b : List Int) (hb : Ws b) (i x L F V0 : Nat) (R : Option (List Int)) (hx : x < 18446744073709551616) (hL : i + b.length + 1 ≤ L) (hL2 : L < 70368744177664)
  (next : ∀ (k : Nat) (o : List Int), F < k → o.length = L → Ws o → val (o.take (i + b.length + 1)) = V0 + 18446744073709551616 ^ i * (x * val b) → (∀ m, i + b.length + 1 ≤ m → o.getD m 0 = 0) → ZN.l0 k b o a a.length ((i + 1 : Nat) : Int) = R) (s : Nat) :
  ∀ (j k : Nat) (o : List Int) (c : Nat), b.length - j = s → j ≤ b.length → F + s + 1 < k → o.length = L → Ws o → c < 18446744073709551616 → (∀ m, i + b.length ≤ m → o.getD m 0 = 0) →
  val (o.take (i + b.length)) + 18446744073709551616 ^ (i + j) * c = V0 + 18446744073709551616 ^ i * (x * val (b.take j)) →
  ZN.l1 k b o i x c a a.length i b b.length j = R := by
 induction s with
 | zero =>
  intro j k o c hs hj hk ho hw hc hz hv
  obtain ⟨k, rfl⟩ : ∃ m, k = m + 1 := ⟨k - 1, by omega⟩
  obtain rfl : j = b.length := by omega
  have g0 : ¬ ((b.length : Int) < (b.length : Int)) := by omega
  have b1 : i + b.length < 4611686018427387904 := by omega
  have b2 : i < 4611686018427387904 := by omega
  have g2 : ((i + b.length : Nat) : Int) < (o.length : Int) := by omega
  have i1 : i + b.length < o.length := by omega
  have i2 : F < k := by omega
  have hz' : ∀ m, i + b.length + 1 ≤ m → i + b.length ≤ m ∧ i + b.length ≠ m := fun m h => by omega
  have ww : wrap64 ((i : Int) + (b.length : Int)) = ((i + b.length : Nat) : Int) := by rw [Zc (by omega) (by omega)]; omega
  simp only [ZN.l1]
  rw [if_neg g0, ww, if_pos (Int.natCast_nonneg _), if_pos g2, ZC b2, Int.toNat_natCast]
  refine next k _ i2 (by rw [List.length_set]; exact ho) (Z0A hw _ (Int.natCast_nonneg _) (Int.ofNat_lt.2 hc)) ?_ ?_
  ·rw [Z02 o _ _ i1, Int.toNat_natCast, hv, Z6 _ _ (Nat.le_refl _)]
  intro m hm
  obtain ⟨h1, h2⟩ := hz' m hm
  rw [Nm.getD_set_ne _ _ _ _ h2]; exact hz m h1
 | succ s ih =>
  intro j k o c hs hj hk ho hw hc hz hv
  obtain ⟨k, rfl⟩ : ∃ m, k = m + 1 := ⟨k - 1, by omega⟩
  have i1 : b.length - (j + 1) = s := by omega
  have i2 : j + 1 ≤ b.length := by omega
  have i3 : F + s + 1 < k := by omega
  have i4 : i + j < i + b.length := by omega
  have i5 : i + b.length ≤ o.length := by omega
  have g1 : (j : Int) < (b.length : Int) := by omega
  have g2 : ((i + j : Nat) : Int) < (o.length : Int) := by omega
  have b3 : j < 4611686018427387904 := by omega
  have hz' : ∀ m, i + b.length ≤ m → i + j ≠ m := fun m h => by omega
  have ww : wrap64 ((i : Int) + (j : Int)) = ((i + j : Nat) : Int) := by rw [Zc (by omega) (by omega)]; omega
  obtain ⟨p0, p1⟩ := Zw hb j
  obtain ⟨q0, q1⟩ := Zw hw (i + j)
  have ey := Z0s p0
  have eo := Z0s q0
  have rs := Z5g b i j x
  have vs := fun n : Nat => Z49 o (i + j) (i + b.length) (n : Int) i4 i5
  generalize hyn : (b.getD j 0).toNat = y at *
  generalize hon : (o.getD (i + j) 0).toNat = u at *
  have y1 : y < 18446744073709551616 := Int.ofNat_lt.1 (ey ▸ p1)
  have u1 : u < 18446744073709551616 := Int.ofNat_lt.1 (eo ▸ q1)
  have hd := Z32 u1 hc hx y1
  obtain ⟨m1, m2⟩ := ZaZ (o := u) (c := c) (p := x * y) hd
  have hn : (u + c + x * y) % 18446744073709551616 < 18446744073709551616 := Nat.mod_lt _ (by decide)
  have hdm := Nat.mod_add_div (u + c + x * y) 18446744073709551616
  simp only [ZN.l1]
  rw [if_pos g1, if_pos (Int.natCast_nonneg _), if_pos g1, Zr, ey, Z2S x y hx y1, Z0, ww, if_pos (Int.natCast_nonneg _), if_pos g2, Zr, eo, ZC b3, Int.toNat_natCast]
  dsimp only
  rw [m1, m2]
  refine ih (j + 1) k _ _ i1 i2 i3 (by rw [List.length_set]; exact ho) (Z0A hw _ (Int.natCast_nonneg _) (Int.ofNat_lt.2 hn)) hd ?_ ?_
  ·intro m hm
   rw [Nm.getD_set_ne _ _ _ _ (hz' m hm)]; exact hz m hm
  have vs' := vs ((u + c + x * y) % 18446744073709551616)
  rw [Int.toNat_natCast] at vs'
  rw [rs]
  exact Z4w vs' hdm hv
theorem Z6K (a b : List Int) (ha : Ws a) (hb : Ws b) (L : Nat) (hL : a.length + b.length = L) (hL2 : L < 35184372088832) (s : Nat) : ∀ (i k : Nat) (o : List Int), a.length - i = s → i ≤ a.length → s * (b.length + 2) + L + 10 < k → o.length = L → Ws o → (∀ m, i + b.length ≤ m → o.getD m 0 = 0) →
  val (o.take (i + b.length)) = val (a.take i) * val b → ZN.l0 k b o a a.length i = some (ofN (val a * val b)) := by
 induction s with
 | zero =>
  intro i k o hs hi hk ho hw hz hv
  obtain ⟨k, rfl⟩ : ∃ m, k = m + 1 := ⟨k - 1, by omega⟩
  obtain rfl : i = a.length := by omega
  have g0 : ¬ ((a.length : Int) < (a.length : Int)) := by omega
  simp only [ZN.l0]
  rw [if_neg g0, Z0W o k hw (by omega) (by omega), Z0]
  rw [Z6 o _ (by omega), Z6 a _ (Nat.le_refl _)] at hv
  rw [hv]
 | succ s ih =>
  intro i k o hs hi hk ho hw hz hv
  rw [Nat.succ_mul] at hk
  obtain ⟨k, rfl⟩ : ∃ m, k = m + 1 := ⟨k - 1, by omega⟩
  have i1 : a.length - (i + 1) = s := by omega
  have i2 : i + 1 ≤ a.length := by omega
  have g1 : (i : Int) < (a.length : Int) := by omega
  have hl : i + b.length + 1 ≤ L := by omega
  have hL3 : L < 70368744177664 := by omega
  have hF : (s * (b.length + 2) + L + 10) + b.length + 1 < k := by omega
  have e1 : i + 1 + b.length = i + b.length + 1 := by omega
  obtain ⟨p0, p1⟩ := Zw ha i
  have ex := Z0s p0
  have cs := Z5h a b i
  generalize hxn : (a.getD i 0).toNat = x at *
  have x1 : x < 18446744073709551616 := Int.ofNat_lt.1 (ex ▸ p1)
  simp only [ZN.l0]
  rw [if_pos g1, if_pos (Int.natCast_nonneg _), if_pos g1, Zr, ex]
  refine Z6J a b hb i x L (s * (b.length + 2) + L + 10) (val (a.take i) * val b) _ x1 hl hL3 ?_ b.length 0 k o 0 rfl (Nat.zero_le _) hF ho hw (by decide) hz (by rw [hv]; simp [val])
  intro k' o' hk' ho' hw' hv' hz'
  refine ih (i + 1) k' o' i1 i2 hk' ho' hw' (by rw [e1]; exact hz') ?_
  rw [e1, hv', cs]
theorem Z9O (a b : List Int) (k : Nat) (ha : Ws a) (hb : Ws b) (na : a.length < 17592186044000) (nb : b.length < 17592186044000) (hk : a.length + b.length < k) (hk2 : (ofN (val a)).length * ((ofN (val b)).length + 2) + (ofN (val a)).length + (ofN (val b)).length + 10 < k) : ZN.f k a b = some (ofN (val a * val b)) := by
 unfold ZN.f
 rw [Z0W a k ha (by omega) (by omega), Z0, Z0W b k hb (by omega) (by omega), Z0]
 have hla : (ofN (val a)).length ≤ a.length := (ZX _ _).2 (Z0B ha)
 have hlb : (ofN (val b)).length ≤ b.length := (ZX _ _).2 (Z0B hb)
 have t := Z6K (ofN (val a)) (ofN (val b)) (Zf _) (Zf _) _ rfl (by omega) (ofN (val a)).length 0 k (List.replicate ((ofN (val a)).length + (ofN (val b)).length) 0) rfl (Nat.zero_le _) (by omega) (by simp) (Z0d _) (fun m _ => Z1V _ _) (by rw [List.take_zero, List.take_replicate, Z1t]; simp [val])
 rw [Z1, Z1] at t
 have e : wrap64 (((ofN (val a)).length : Int) + ((ofN (val b)).length : Int)) = (((ofN (val a)).length + (ofN (val b)).length : Nat) : Int) := by rw [Zc (by omega) (by omega)]; omega
 rw [e, if_pos (Int.natCast_nonneg _), Int.toNat_natCast, if_pos (by omega)]
 exact t
theorem Z7v {a b : Nat} (h : a + b < 4611686018427387904) : wrap64 ((a : Int) + (b : Int)) = ((a + b : Nat) : Int) := by rw [Zc (by omega) (by omega)]; omega
def Q64 (n q : Nat) : Prop := wrap64 (Int.tdiv (n : Int) 64) = (q : Int)
theorem Z7w (n : Nat) (a : List Int) (ha : Ws a) (q s : Nat) (e1 : Q64 n q) (hs : s < 64) (na : a.length + q < 35184372088000) (r : Nat) : ∀ (j k : Nat) (o : List Int) (c : Nat), a.length - j = r → j ≤ a.length → r + a.length + q + 3 < k → o.length = a.length + q + 1 → Ws o → c < 2 ^ s → o.getD (q + j) 0 = c → (∀ i, q + j < i → o.getD i 0 = 0) →
  val (o.take (q + j)) + 18446744073709551616 ^ (q + j) * c = 18446744073709551616 ^ q * (val (a.take j) * 2 ^ s) →
  Zy.l0 k n o s a a.length j = some (ofN (18446744073709551616 ^ q * (val a * 2 ^ s))) := by
 have h2 : 2 ^ s ≤ 18446744073709551616 := by rw [← Z0g (show s ≤ 64 by omega)]; exact Nat.le_mul_of_pos_right _ (Nat.pow_pos (by decide))
 induction r with
 | zero =>
  intro j k o c hr hj hk ho hw hc hg hz hv
  obtain ⟨k, rfl⟩ : ∃ m, k = m + 1 := ⟨k - 1, by omega⟩
  obtain rfl : j = a.length := by omega
  simp only [Zy.l0]
  rw [if_neg (by omega), Z0W _ k hw (by omega) (by omega), Z0]
  have e := Zp o (q + a.length) (by omega)
  rw [hg, Int.toNat_natCast, hv, Z6 _ _ (by omega), Z6 _ _ (Nat.le_refl _)] at e
  rw [e]
 | succ r ih =>
  intro j k o c hr hj hk ho hw hc hg hz
  obtain ⟨k, rfl⟩ : ∃ m, k = m + 1 := ⟨k - 1, by omega⟩
  have i1 : a.length - (j + 1) = r := by omega
  have i2 : j + 1 ≤ a.length := by omega
  have i3 : r + a.length + q + 3 < k := by omega
  have i4 : q + j + 1 < o.length := by omega
  have b1 : j + q < 4611686018427387904 := by omega
  have b2 : q + j < 4611686018427387904 := by omega
  have b3 : j < 4611686018427387904 := by omega
  have g1 : (j : Int) < (a.length : Int) := by omega
  have g2 : ((q + j : Nat) : Int) < (o.length : Int) := by omega
  have g3 : ((q + j + 1 : Nat) : Int) < (o.length : Int) := by omega
  have hs' : s ≤ 64 := by omega
  have l0 : 2 ^ s ≤ 18446744073709551616 := h2
  have hz' : ∀ i, q + (j + 1) < i → q + j < i ∧ q + j + 1 ≠ i ∧ q + j ≠ i := fun i hi => by omega
  have hq1 : q + j < q + j + 1 := by omega
  intro hv
  simp only [Zy.l0]
  rw [if_pos g1, if_pos (Int.natCast_nonneg _), if_pos g1, show wrap64 (Int.tdiv (n : Int) 64) = (q : Int) from e1, Z7v b2, ZC b2, if_pos (Int.natCast_nonneg _), if_pos g2, if_pos (Int.natCast_nonneg _), ZC b3]
  simp only [Zr, Int.toNat_natCast]
  obtain ⟨p0, p1⟩ := Zw ha j
  have ew := Z0s p0
  generalize hwn : (a.getD j 0).toNat = w at ew
  have w1 : w < 18446744073709551616 := Int.ofNat_lt.1 (ew ▸ p1)
  rw [ew, hg, Z4e hs' hc, Z0]
  have l1 := Z4y (w := w) hs' hc
  have e := (Z1m (w := w) (s := s) hs').2
  have key : ∀ d : Nat, d = w / 2 ^ (64 - s) → Zy.l0 k n ((o.set (q + j) ((w * 2 ^ s % 18446744073709551616 + c : Nat) : Int)).set (q + j + 1) (d : Int)) s a a.length ((j + 1 : Nat) : Int) = some (ofN (18446744073709551616 ^ q * (val a * 2 ^ s))) := by
   intro d hd
   have l2 : d < 2 ^ s := by rw [hd]; exact Z34 hs' w1
   refine ih (j + 1) k _ d i1 i2 i3 (by rw [List.length_set, List.length_set]; exact ho) (Z0A (Z0A hw _ (Int.natCast_nonneg _) (Int.ofNat_lt.2 l1)) _ (Int.natCast_nonneg _) (Int.ofNat_lt.2 (Nat.lt_of_lt_of_le l2 h2))) l2 ?_ ?_ ?_
   ·exact Nm.Z12 _ _ _ (by rw [List.length_set]; exact i4)
   ·intro i hi
    obtain ⟨z1, z2, z3⟩ := hz' i hi
    rw [Nm.getD_set_ne _ _ _ _ z2, Nm.getD_set_ne _ _ _ _ z3]
    exact hz i z1
   rw [← hd] at e
   have := Zp ((o.set (q + j) ((w * 2 ^ s % 18446744073709551616 + c : Nat) : Int)).set (q + j + 1) (d : Int)) (q + j + 1) (by rw [List.length_set, List.length_set]; exact i4)
   rw [Z59 _ _ _ _ i4, Nm.Z12 _ _ _ (by rw [List.length_set]; exact i4), Int.toNat_natCast] at this
   have e3 : q + (j + 1) = q + j + 1 := rfl
   rw [e3]
   rw [← this, Zx a, hwn, Nat.pow_succ, Nat.pow_add]
   rw [Nat.pow_add] at hv
   exact Z57 e hv
  by_cases h : (s : Int) > 0
  ·have hs64 : 64 - s ≤ 64 := by omega
   have e64 : wrap64 (64 - (s : Int)) = ((64 - s : Nat) : Int) := by rw [Zc (by omega) (by omega)]; omega
   rw [if_pos h, e64, if_pos (Int.natCast_nonneg _), if_pos (Int.natCast_nonneg _), if_pos g3, Z1E _ _ hs64]
   exact key _ rfl
  have : s = 0 := by omega
  rw [if_neg h]
  have k0 := key 0 (by subst this; rw [Nat.div_eq_of_lt (show w < 2 ^ (64 - 0) from w1)])
  have same : ((o.set (q + j) ((w * 2 ^ s % 18446744073709551616 + c : Nat) : Int)).set (q + j + 1) ((0 : Nat) : Int)) = o.set (q + j) ((w * 2 ^ s % 18446744073709551616 + c : Nat) : Int) := by
   have h0 := hz (q + j + 1) hq1
   refine List.ext_getElem (by simp) fun i g1 g2 => ?_
   by_cases hi : i = q + j + 1
   ·subst hi
    rw [List.getElem_set_self, List.getElem_set_ne (by omega)]
    rw [List.getD_eq_getElem?_getD, List.getElem?_eq_getElem i4] at h0
    exact h0.symm
   rw [List.getElem_set_ne (by omega)]
  rw [same] at k0
  exact k0
theorem Z63 (a : List Int) (n k : Nat) (ha : Ws a) (hn : n < 4611686018427387904) (na : a.length + n / 64 < 17592186044000) (hk : 3 * a.length + n / 64 + 10 < k) : Zy.f k a n = some (ofN (val a * 2 ^ n)) := by
 unfold Zy.f
 have hla : (ofN (val a)).length ≤ a.length := (ZX _ _).2 (Z0B ha)
 rw [Z0W a k ha (by omega) (by omega), Z0]
 by_cases h : val a = 0
 ·have := Z0e.2 h
  rw [if_pos (by omega), h, Nat.zero_mul, Zv]
 have hl : (ofN (val a)).length ≠ 0 := fun z => h (Z0e.1 z)
 have f1 : n % 64 < 64 := by omega
 have f2 : (ofN (val a)).length + n / 64 < 35184372088000 := by omega
 have f3 : (ofN (val a)).length + (ofN (val a)).length + n / 64 + 3 < k := by omega
 have c1 : (ofN (val a)).length + n / 64 + 1 ≤ 35184372088832 := by omega
 have c2 : ¬ (((ofN (val a)).length : Int) = 0) := by omega
 have b1 : n / 64 + (ofN (val a)).length + 1 < 4611686018427387904 := by omega
 have e1 : Q64 n (n / 64) := by
  unfold Q64
  rw [Int.tdiv_eq_ediv_of_nonneg (by omega), Zc (by omega) (by omega)]; omega
 have t := Z7w n (ofN (val a)) (Zf _) (n / 64) (n % 64) e1 f1 f2 _ 0 k (List.replicate ((ofN (val a)).length + n / 64 + 1) 0) 0 rfl (Nat.zero_le _) (by rw [Nat.sub_zero]; exact f3) (by simp) (Z0d _) (Nat.pow_pos (by decide)) (by rw [Z1V]; rfl) (fun i _ => Z1V _ _) (by simp [Z1t, val])
 rw [Z1] at t
 have e2 : Int.tmod (n : Int) 64 = ((n % 64 : Nat) : Int) := by
  clear t e1
  rw [Int.tmod_eq_emod_of_nonneg (by omega)]; omega
 have e3 : wrap64 ((wrap64 (((n / 64 : Nat) : Int) + ((ofN (val a)).length : Int))) + 1) = (((ofN (val a)).length + n / 64 + 1 : Nat) : Int) := by
  clear t e1 e2 hn na hk f1 f2 f3 c1 hla
  generalize n / 64 = q at *
  generalize (ofN (val a)).length = m at *
  rw [Zc (x := (q : Int) + (m : Int)) (by omega) (by omega), Zc (by omega) (by omega)]; omega
 rw [if_neg c2, show wrap64 (Int.tdiv (n : Int) 64) = ((n / 64 : Nat) : Int) from e1, e2, e3, if_pos (Int.natCast_nonneg _), Int.toNat_natCast, if_pos c1, Z4z n, Nat.mul_left_comm]
 exact t
theorem Z7x (v : Nat) (hl : (ofN v).length < 4503599627370496) (s : Nat) : ∀ (i k : Nat), (ofN v).length - i = s → i ≤ (ofN v).length → s < k → val ((ofN v).take i) = 0 →
  (v = 0 → Z00.l0 k (ofN v) (ofN v).length i = some 0) ∧ (∀ t m : Nat, v = 2 ^ t * (2 * m + 1) → Z00.l0 k (ofN v) (ofN v).length i = some (t : Int)) := by
 induction s with
 | zero =>
  intro i k hs hi hk hz
  obtain ⟨k, rfl⟩ : ∃ z, k = z + 1 := ⟨k - 1, by omega⟩
  obtain rfl : i = (ofN v).length := by omega
  rw [Z6 _ _ (Nat.le_refl _), Z1] at hz
  have g : Z00.l0 (k + 1) (ofN v) (ofN v).length ((ofN v).length : Nat) = some 0 := by
   simp only [Z00.l0]; rw [if_neg (by omega)]
  refine ⟨fun _ => g, fun t m ht => ?_⟩
  have : 0 < 2 ^ t * (2 * m + 1) := Nat.mul_pos (Nat.pow_pos (by decide)) (by omega)
  omega
 | succ s ih =>
  intro i k hs hi hk hz
  obtain ⟨k, rfl⟩ : ∃ z, k = z + 1 := ⟨k - 1, by omega⟩
  have i1 : (ofN v).length - (i + 1) = s := by omega
  have i2 : i + 1 ≤ (ofN v).length := by omega
  have i3 : s < k := by omega
  have g1 : (i : Int) < ((ofN v).length : Int) := by omega
  have b3 : i < 4611686018427387904 := by omega
  have i5 : i < (ofN v).length := by omega
  obtain ⟨p0, p1⟩ := Zw (Zf v) i
  have ew := Z0s p0
  have ts := Zp (ofN v) i i5
  have td := Z0u (ofN v) i (Nat.le_of_lt i5)
  have vd := Z1f (ofN v) i i5
  rw [hz] at ts td
  rw [Z1, vd] at td
  simp only [Z00.l0]
  rw [if_pos g1, if_pos (Int.natCast_nonneg _), if_pos g1, Zr]
  generalize hwn : ((ofN v).getD i 0).toNat = w at *
  by_cases h : w = 0
  ·have := ih (i + 1) k i1 i2 i3 (by rw [ts, h]; simp)
   rw [if_pos (by rw [ew, h]; rfl), ZC b3]
   exact this
  have w1 : w < 18446744073709551616 := Int.ofNat_lt.1 (ew ▸ p1)
  obtain ⟨s', c, hc⟩ := Z0T w h
  obtain ⟨tz, ts64⟩ := Z5j hc w1
  have e2 : wrap64 (64 * (i : Int)) = ((64 * i : Nat) : Int) := by rw [Zc (by omega) (by omega)]; omega
  have e3 : wrap64 (((64 * i : Nat) : Int) + (s' : Int)) = ((64 * i + s' : Nat) : Int) := by clear e2; rw [Zc (by omega) (by omega)]; omega
  have hw0 : ¬ (w : Int) = 0 := by clear e2 e3; omega
  rw [ew, if_neg hw0, tz, Z0, e2, e3]
  clear e2 e3
  have hv : v = 2 ^ (64 * i + s') * (2 * (c + 2 ^ (63 - s') * val ((ofN v).drop (i + 1))) + 1) := by
   have eB : (18446744073709551616 : Nat) = 2 ^ s' * (2 * 2 ^ (63 - s')) := by
    have := Z0g (show s' ≤ 64 by omega)
    have e3 : 64 - s' = (63 - s') + 1 := by omega
    rw [e3, Nat.pow_succ, Nat.mul_comm _ 2] at this
    exact this.symm
   have eP : (18446744073709551616 : Nat) ^ i = 2 ^ (64 * i) := by rw [Nat.pow_mul]
   generalize val ((ofN v).drop (i + 1)) = R at *
   have e5 : w + 18446744073709551616 * R = 2 ^ s' * (2 * (c + 2 ^ (63 - s') * R) + 1) := by
    rw [eB, hc, Nat.mul_assoc, ← Nat.mul_add, Nat.mul_add 2 c, Nat.mul_assoc 2]
    congr 1; omega
   rw [Nat.zero_add, e5, eP, ← Nat.mul_assoc, ← Nat.pow_add] at td
   exact td
  refine ⟨fun z => ?_, fun t m ht => ?_⟩
  ·have : 0 < 2 ^ (64 * i + s') * (2 * (c + 2 ^ (63 - s') * val ((ofN v).drop (i + 1))) + 1) := Nat.mul_pos (Nat.pow_pos (by decide)) (by omega)
   omega
  have := Z2V (ht.symm.trans hv)
  rw [this]
theorem Z64 (v k : Nat) (hl : (ofN v).length < 4503599627370496) (hk : (ofN v).length < k) : (v = 0 → Z00.f k (ofN v) = some 0) ∧ (∀ t m : Nat, v = 2 ^ t * (2 * m + 1) → Z00.f k (ofN v) = some (t : Int)) := by
 unfold Z00.f
 exact Z7x v hl (ofN v).length 0 k (by omega) (Nat.zero_le _) hk (by simp [val])
theorem Z7y (A : List Int) (ha : Ws A) (s : Nat) (hs : s < 64) (lost : Bool) (na : A.length < 35184372088832) (r : Nat) : ∀ (j k : Nat) (o : List Int), A.length - j = r → j ≤ A.length → r + A.length + 3 < k → o.length = A.length → Ws o →
  2 ^ s * val (o.take j) + (A.getD 0 0).toNat % 2 ^ s = val (A.take j) + 18446744073709551616 ^ j * ((A.getD j 0).toNat % 2 ^ s) →
  ZI.l0 k A lost o s A (A.length : Int) j = some (ofN (val A / 2 ^ s), lost) := by
 induction r with
 | zero =>
  intro j k o hr hj hk ho hw hv
  obtain ⟨k, rfl⟩ : ∃ m, k = m + 1 := ⟨k - 1, by omega⟩
  obtain rfl : j = A.length := by omega
  simp only [ZI.l0]
  rw [if_neg (by omega), Z0W _ _ hw (by omega) (by omega), Z0]
  rw [Z14 A A.length (by omega), Z6 o _ (by omega), Z6 A _ (by omega)] at hv
  have h0 : (A.getD 0 0).toNat % 2 ^ s < 2 ^ s := Nat.mod_lt _ (Nat.pow_pos (by decide))
  have := (Z48 h0 (show 2 ^ s * val o + (A.getD 0 0).toNat % 2 ^ s = val A by rw [hv]; simp)).1
  rw [this]
 | succ r ih =>
  intro j k o hr hj hk ho hw hv
  obtain ⟨k, rfl⟩ : ∃ m, k = m + 1 := ⟨k - 1, by omega⟩
  have i1 : A.length - (j + 1) = r := by omega
  have i2 : j + 1 ≤ A.length := by omega
  have i3 : r + A.length + 3 < k := by omega
  have i4 : j < o.length := by omega
  have g1 : (j : Int) < (A.length : Int) := by omega
  have g3 : (j : Int) < (o.length : Int) := by omega
  have g4 : ((j + 1 : Nat) : Int) < (A.length : Int) ↔ j + 1 < A.length := by omega
  have b3 : j < 4611686018427387904 := by omega
  have hs' : s ≤ 64 := by omega
  have hs6 : 64 - s ≤ 64 := by omega
  have hsp : (s : Int) > 0 ↔ 0 < s := by omega
  have hs1 : -9223372036854775808 ≤ (64 : Int) - (s : Int) := by omega
  have hs2 : (64 : Int) - (s : Int) < 9223372036854775808 := by omega
  have hs3 : (64 : Int) - (s : Int) = ((64 - s : Nat) : Int) := by omega
  have hs0 : ¬ 0 < s → s = 0 := by omega
  have hge : ¬ j + 1 < A.length → A.length ≤ j + 1 := by omega
  simp only [ZI.l0]
  rw [if_pos g1, if_pos (Int.natCast_nonneg _), if_pos g1, if_pos (Int.natCast_nonneg _), if_pos g3, ZC b3, Z0]
  simp only [Zr, Int.toNat_natCast]
  obtain ⟨p0, p1⟩ := Zw ha j
  obtain ⟨p2, p3⟩ := Zw ha (j + 1)
  have ew := Z0s p0
  have ew' := Z0s p2
  generalize hwn : (A.getD j 0).toNat = w at ew
  generalize hwn' : (A.getD (j + 1) 0).toNat = w' at ew'
  have w1 : w < 18446744073709551616 := Int.ofNat_lt.1 (ew ▸ p1)
  rw [ew, Z1E _ _ hs', Nm.Z12 _ _ _ i4, List.set_set]
  have key : ∀ v : Nat, v = w / 2 ^ s + 2 ^ (64 - s) * (w' % 2 ^ s) → ZI.l0 k A lost (o.set j (v : Int)) s A (A.length : Int) ((j + 1 : Nat) : Int) = some (ofN (val A / 2 ^ s), lost) := by
   intro v hv2
   have l1 : v < 18446744073709551616 := by rw [hv2]; exact Z2z hs' w1
   refine ih (j + 1) k _ i1 i2 i3 (by rw [List.length_set]; exact ho) (Z0A hw _ (Int.natCast_nonneg _) (Int.ofNat_lt.2 l1)) ?_
   rw [Z02 o j _ i4, Zx, hwn', hwn, Int.toNat_natCast, Nat.pow_succ]
   rw [hwn] at hv
   exact Z3B (Z0g hs') hv2 hv
  by_cases h : 0 < s
  ·rw [if_pos (hsp.2 h)]
   by_cases g : j + 1 < A.length
   ·rw [if_pos (g4.2 g), if_pos (Int.natCast_nonneg _), Zc hs1 hs2, hs3, if_pos (Int.natCast_nonneg _), ew', Z5a h hs w1]
    exact key _ rfl
   rw [if_neg (fun x => g (g4.1 x))]
   refine key _ ?_
   rw [Z14 A _ (hge g)] at hwn'
   have : w' = 0 := hwn'.symm
   rw [this]; simp
  have h00 := hs0 h
  rw [if_neg (fun x => h (hsp.1 x))]
  refine key _ ?_
  rw [h00]; simp [Nat.mod_one]
theorem Z3T (t m n : Nat) : (2 ^ t * (2 * m + 1)) % 2 ^ n ≠ 0 ↔ t < n := by
 constructor
 ·intro h
  refine Classical.byContradiction fun g => h ?_
  rw [show t = n + (t - n) by omega, Nat.pow_add, Nat.mul_assoc]
  exact Nat.mul_mod_right _ _
 intro h e
 obtain ⟨c, hc⟩ := Nat.dvd_of_mod_eq_zero e
 rw [show n = t + (1 + (n - t - 1)) by omega, Nat.pow_add, Nat.pow_add, Nat.mul_assoc] at hc
 have := Nat.eq_of_mul_eq_mul_left (Nat.pow_pos (by decide)) hc
 rw [Nat.pow_one, Nat.mul_assoc] at this
 omega
theorem Z9P (a : List Int) (n k : Nat) (ha : Ws a) (hn : n < 4611686018427387904) (na : a.length < 17592186044000) (hk : 3 * a.length + 10 < k) :
  ZI.f k a n = some (ofN (val a / 2 ^ n), decide (val a % 2 ^ n ≠ 0)) := by
 unfold ZI.f
 have hl : (ofN (val a)).length ≤ a.length := (ZX (val a) a.length).2 (Z0B ha)
 rw [Z0W a k ha (by omega) (by omega), Z0]
 generalize hv : val a = v at *
 have wv : Ws (ofN v) := Zf v
 by_cases h0 : v = 0
 ·subst h0
  rw [Zv, if_pos (show ((([] : List Int).length : Nat) : Int) = 0 from rfl), Nat.zero_div, Nat.zero_mod, Zv]; rfl
 obtain ⟨t, m, e⟩ := Z0T v h0
 have hne : (ofN v).length ≠ 0 := fun h => h0 (Z0e.1 h)
 have q0 : ¬ ((ofN v).length : Int) = 0 := by omega
 have ql : (ofN v).length < 17592186044000 := by omega
 have qk : 3 * (ofN v).length + 10 < k := by omega
 rw [if_neg q0, ((Z64 v k (by omega) (by omega)).2 t m e), Z0]
 have hd : decide ((t : Int) < (n : Int)) = decide (v % 2 ^ n ≠ 0) := by
  rw [decide_eq_decide, e, Z3T]; omega
 rw [hd]
 have e2 : Int.tmod (n : Int) 64 = ((n % 64 : Nat) : Int) := by
  rw [Int.tmod_eq_emod_of_nonneg (by omega)]; omega
 have en : n = 64 * (n / 64) + n % 64 := by omega
 have hs : n % 64 < 64 := by omega
 have e1 : wrap64 (Int.tdiv (n : Int) 64) = ((n / 64 : Nat) : Int) := by
  have a1 : (-9223372036854775808 : Int) ≤ ((n / 64 : Nat) : Int) := by omega
  have a2 : ((n / 64 : Nat) : Int) < 9223372036854775808 := by omega
  rw [Int.tdiv_eq_ediv_of_nonneg (Int.natCast_nonneg n)]
  exact Zc a1 a2
 rw [e1, e2]
 generalize n / 64 = q at *
 generalize n % 64 = s at *
 generalize hL : (ofN v).length = L at *
 by_cases h : L ≤ q
 ·have q1 : (q : Int) ≥ (L : Int) := by omega
  rw [if_pos q1]
  have h1 : v < 2 ^ n := by
   have := (ZX v L).1 (Nat.le_of_eq hL)
   refine Nat.lt_of_lt_of_le this ?_
   have e : 18446744073709551616 ^ L = 2 ^ (64 * L) := by rw [Nat.pow_mul]
   rw [e]; exact Nat.pow_le_pow_right (by decide) (by omega)
  rw [Nat.div_eq_of_lt h1, Zv]
 have c1 : ¬ ((q : Int) ≥ (L : Int)) := by omega
 have c3 : (q : Int) ≤ (L : Int) := by omega
 have hdl : ((ofN v).drop q).length = L - q := by rw [List.length_drop, hL]
 have c5 : ((L - q : Nat) : Int).toNat ≤ 35184372088832 := by rw [Int.toNat_natCast]; omega
 have c6 : L - q < 35184372088832 := by omega
 have c7 : (L - q) + (L - q) + 3 < k := by omega
 rw [if_neg c1, if_pos (Int.natCast_nonneg _), if_pos c3, Z0, Int.toNat_natCast, hdl, if_pos (Int.natCast_nonneg _), if_pos c5, Int.toNat_natCast]
 have hp := (Z36 (q := q) (s := s) wv hs (by omega)).1
 rw [Z1] at hp
 have := Z7y ((ofN v).drop q) (Z3h wv q) s hs (decide (v % 2 ^ n ≠ 0)) (by rw [hdl]; exact c6) _ 0 k (List.replicate (L - q) 0) rfl (Nat.zero_le _) (by rw [hdl]; exact c7) (by rw [hdl, List.length_replicate]) (Z0d _) (by simp [val])
 rw [hdl] at this
 rw [en, hp, ← en]
 exact this
noncomputable def tz (n : Nat) : Nat := if h : n ≠ 0 then Classical.choose (Z0T n h) else 0
theorem Z1u {n t m : Nat} (h : n = 2 ^ t * (2 * m + 1)) : tz n = t := by
 have h0 : n ≠ 0 := by rw [h]; exact Nat.ne_of_gt (Nat.mul_pos (Nat.pow_pos (by decide)) (by omega))
 unfold tz
 rw [dif_pos h0]
 obtain ⟨m', hm⟩ := Classical.choose_spec (Z0T n h0)
 exact Z2V (hm.symm.trans h)
noncomputable def od (n : Nat) : Nat := n / 2 ^ tz n
theorem Z21 {n t m : Nat} (h : n = 2 ^ t * (2 * m + 1)) : od n = 2 * m + 1 := by
 unfold od
 rw [Z1u h, h, Nat.mul_div_cancel_left _ (Nat.pow_pos (by decide))]
theorem Z3n (n : Nat) : od n ≤ n := Nat.div_le_self _ _
theorem Z39 (n : Nat) : od n * 2 ^ tz n = n := by
 by_cases h : n = 0
 ·subst h; unfold od; rw [Nat.zero_div, Nat.zero_mul]
 obtain ⟨t, m, e⟩ := Z0T n h
 rw [Z21 e, Z1u e, e, Nat.mul_comm]
theorem Z3U {n : Nat} (h : n ≠ 0) : od n ≠ 0 := fun e => h (by have := Z39 n; rw [e, Nat.zero_mul] at this; exact this.symm)
noncomputable def cf (s : Bool) (n : Nat) (e : Int) : Bool × List Int × Int := if n = 0 then (false, [], 0) else (s, ofN (od n), e + (tz n : Int))
theorem Z0J (s : Bool) (e : Int) : cf s 0 e = (false, [], 0) := by unfold cf; rw [if_pos rfl]
theorem Z19 {n : Nat} (h : n ≠ 0) (s : Bool) (e : Int) : cf s n e = (s, ofN (od n), e + (tz n : Int)) := by unfold cf; rw [if_neg h]
theorem Z7z {n : Nat} (h : n ≠ 0) (j : Nat) : tz (n * 2 ^ j) = tz n + j ∧ od (n * 2 ^ j) = od n := by
 obtain ⟨t, m, e⟩ := Z0T n h
 have e2 : n * 2 ^ j = 2 ^ (t + j) * (2 * m + 1) := by rw [e, Nat.pow_add, Nat.mul_right_comm]
 exact ⟨by rw [Z1u e2, Z1u e], by rw [Z21 e2, Z21 e]⟩
theorem Zau (s : Bool) (n j : Nat) (e : Int) : cf s (n * 2 ^ j) e = cf s n (e + j) := by
 by_cases h : n = 0
 ·subst h; rw [Nat.zero_mul, Z0J, Z0J]
 have h2 : n * 2 ^ j ≠ 0 := Nat.ne_of_gt (Nat.mul_pos (Nat.pos_of_ne_zero h) (Nat.pow_pos (by decide)))
 rw [Z19 h, Z19 h2, (Z7z h j).1, (Z7z h j).2]
 congr 2
 omega
theorem Z3V {n : Nat} (h : n ≠ 0) : tz n < bl n := by
 obtain ⟨t, m, e⟩ := Z0T n h
 rw [Z1u e]; exact Z5l e
theorem Z3a {n m : Nat} (h : (ofN n).length ≤ m) : bl n ≤ 64 * m := by
 rw [ZO]
 have := (ZX n m).1 h
 rw [Nat.pow_mul]; exact this
theorem Z2I (n : Nat) : (ofN (od n)).length ≤ (ofN n).length := ZY (Z3n n)
theorem Z1W (s : Bool) (l : List Int) (e : Int) (k : Nat) (hw : Ws l) (hl : l.length < 17592186044000) (h0 : -1000000000000000000 ≤ e) (h1 : e ≤ 1000000000000000000) (hk : 100000000000000000 ≤ k) : Z0m.f k s l e = some (cf s (val l) e) := by
 unfold Z0m.f
 have hn : (ofN (val l)).length ≤ l.length := (ZX (val l) l.length).2 (Z0B hw)
 rw [Z0W l k hw (by omega) (by omega), Z0]
 generalize val l = v at *
 by_cases h : v = 0
 ·subst h
  rw [Zv, Z0J, if_pos (show ((([] : List Int).length : Nat) : Int) = 0 from rfl)]
 obtain ⟨t, m, e1⟩ := Z0T v h
 have hne : (ofN v).length ≠ 0 := fun h' => h (Z0e.1 h')
 have q0 : ¬ ((ofN v).length : Int) = 0 := by omega
 have ht := Z5l e1
 have hb := Z3a hn
 have ht2 : t < 4611686018427387904 := by omega
 rw [if_neg q0, ((Z64 v k (by omega) (by omega)).2 t m e1), Z0, Z9P _ t k (Zf v) ht2 (by omega) (by omega), Z0, Z19 h, Z1, Z1u e1, Zc (by omega) (by omega)]
 unfold od
 rw [Z1u e1]
theorem Z2W (s : Bool) (l : List Int) (e : Int) (k : Nat) (hw : Ws l) (hl : l.length < 17592186044000) (h0 : -1000000000000000000 ≤ e) (h1 : e ≤ 1000000000000000000) (hk : 100000000000000000 ≤ k) : Z06.f k s l e = some (cf s (val l) e) := by
 unfold Z06.f
 have hn : (ofN (val l)).length ≤ l.length := (ZX (val l) l.length).2 (Z0B hw)
 rw [Z2Q l k hw (by omega) (by omega), Z0]
 generalize val l = v at *
 by_cases h : v = 0
 ·subst h
  rw [Zv, Z0J, if_pos (show ((([] : List Int).length : Nat) : Int) = 0 from rfl)]
 obtain ⟨t, m, e1⟩ := Z0T v h
 have hne : (ofN v).length ≠ 0 := fun h' => h (Z0e.1 h')
 have q0 : ¬ ((ofN v).length : Int) = 0 := by omega
 have ht := Z5l e1
 have hb := Z3a hn
 have ht2 : t < 4611686018427387904 := by omega
 rw [if_neg q0, Z9I (ofN v) k (Zf v) (by rw [Z1]; exact e1) ht2 (by omega) (by omega), Z0, Z9x (ofN v) t k (Zf v) (by omega) (by omega) (by omega), Z0, Z19 h, Z1, Z1u e1, Zc (by omega) (by omega)]
 unfold od
 rw [Z1u e1]
def sg (s : Bool) (n : Nat) : Int := if s then -(n : Int) else (n : Int)
def lowE : Int := -4000000
def Vz (z e : Int) : Int := z * 2 ^ (e - lowE).toNat
noncomputable def cz (z e : Int) : Bool × List Int × Int := cf (decide (z < 0)) z.natAbs e
theorem Z1X (s : Bool) : sg s 0 = 0 := by cases s <;> rfl
theorem Z1z (s : Bool) (n : Nat) : (sg s n).natAbs = n := by cases s <;> simp [sg]
theorem Zav (s : Bool) (n m : Nat) : sg s (n + m) = sg s n + sg s m := by cases s <;> simp [sg] <;> omega
theorem Z7A (s : Bool) {n m : Nat} (h : m ≤ n) : sg s (n - m) = sg s n + sg (!s) m := by cases s <;> simp [sg] <;> omega
theorem Zaw (s : Bool) (n m : Nat) : sg s (n * m) = sg s n * (m : Int) := by cases s <;> simp [sg, Int.neg_mul]
theorem Z2J (j : Nat) : ((2 ^ j : Nat) : Int) = (2 : Int) ^ j := by simp
theorem Z3W (s : Bool) (n j : Nat) : sg s (n * 2 ^ j) = sg s n * 2 ^ j := by rw [Zaw, Z2J]
theorem Z3X (s : Bool) {n : Nat} (h : n ≠ 0) : decide (sg s n < 0) = s := by cases s <;> simp [sg] <;> omega
theorem Z9Q (z : Int) : sg (decide (z < 0)) z.natAbs = z := by
 unfold sg
 by_cases h : z < 0
 ·rw [if_pos (decide_eq_true h)]; omega
 rw [if_neg (by simpa using h)]; omega
theorem Z3o (s : Bool) (n : Nat) (e : Int) : cf s n e = cz (sg s n) e := by
 unfold cz
 rw [Z1z]
 by_cases h : n = 0
 ·subst h; rw [Z0J, Z0J]
 rw [Z3X s h]
theorem Z8E (j : Nat) : (0 : Int) < 2 ^ j := by rw [← Z2J]; exact Int.ofNat_lt.2 (Nat.pow_pos (by decide))
theorem Z5I (z : Int) (j : Nat) : decide (z * 2 ^ j < 0) = decide (z < 0) := by
 rw [decide_eq_decide]
 have := Z8E j
 constructor
 ·intro h
  refine Classical.byContradiction fun g => ?_
  have := Int.mul_nonneg (Int.not_lt.1 g) (Int.le_of_lt this)
  omega
 intro h; exact Int.mul_neg_of_neg_of_pos h this
theorem Z7B (z : Int) (j : Nat) (e : Int) : cz (z * 2 ^ j) e = cz z (e + j) := by
 unfold cz
 rw [Z5I, Int.natAbs_mul, ← Z2J, Int.natAbs_natCast, Zau]
theorem Z3p {e : Int} (h : lowE ≤ e) (z : Int) : cz z e = cz (Vz z e) lowE := by
 unfold Vz
 rw [Z7B]
 congr 1
 omega
theorem Z3Y {e : Int} (h : lowE ≤ e) (z : Int) (j : Nat) : Vz (z * 2 ^ j) e = Vz z (e + j) := by
 unfold Vz
 rw [show (e + j - lowE).toNat = j + (e - lowE).toNat by omega, Int.pow_add, Int.mul_assoc]
theorem Z2e (e : Int) : Vz 0 e = 0 := Int.zero_mul _
theorem Z3Z (a b e : Int) : Vz (a + b) e = Vz a e + Vz b e := Int.add_mul _ _ _
def vl (s : Bool) (l : List Int) (e : Int) : Int := Vz (sg s (val l)) e
theorem Z96 {e : Int} (h : lowE ≤ e) (s : Bool) (l : List Int) : cf s (val l) e = cz (vl s l e) lowE := by rw [Z3o, Z3p h]; rfl
theorem Zb0 {e : Int} (h : lowE ≤ e) (s : Bool) (n : Nat) : vl (cf s n e).1 (cf s n e).2.1 (cf s n e).2.2 = Vz (sg s n) e := by
 by_cases h0 : n = 0
 ·subst h0; rw [Z0J, Z1X, Z2e]; unfold vl; rw [Z1l, Z1X, Z2e]
 rw [Z19 h0]
 show Vz (sg s (val (ofN (od n)))) (e + (tz n : Int)) = _
 rw [Z1, ← Z3Y h, ← Z3W, Z39]
theorem Z6L (Z : Int) : vl (cz Z lowE).1 (cz Z lowE).2.1 (cz Z lowE).2.2 = Z := by
 unfold cz
 rw [Zb0 (Int.le_refl _), Z9Q]
 unfold Vz; rw [Int.sub_self]; simp
theorem Z8F {v : Nat} : (((ofN v).length : Nat) : Int) = 0 ↔ v = 0 := by rw [← Z0e]; omega
theorem Z4k {a m : Nat} (h : (ofN a).length ≤ m) (j : Nat) : (ofN (a * 2 ^ j)).length ≤ m + j / 64 + 1 := by
 rw [ZX] at h ⊢
 have e : 18446744073709551616 ^ (m + j / 64 + 1) = 18446744073709551616 ^ m * 2 ^ (64 * (j / 64 + 1)) := by rw [Nat.add_assoc, Nat.pow_add, Nat.pow_mul]
 rw [e]
 exact Nat.mul_lt_mul_of_lt_of_le h (Nat.pow_le_pow_right (by decide) (by omega)) (Nat.pow_pos (by decide))
theorem Z5o {a b m : Nat} (ha : (ofN a).length ≤ m) (hb : (ofN b).length ≤ m) : (ofN (a + b)).length ≤ m + 1 := Z5H rfl ((ZX _ _).1 ha) ((ZX _ _).1 hb)
theorem Z2K (s : Bool) (l : List Int) (e : Int) (k : Nat) (hw : Ws l) (hl : l.length < 17592186044000) (hk : 100000000000000000 ≤ k) : Z0R.f k s l e = some (decide (val l = 0)) := by
 unfold Z0R.f
 rw [Z0W l k hw (by omega) (by omega), Z0]
 congr 1
 rw [Bool.eq_iff_iff, decide_eq_true_iff, beq_iff_eq, Z8F]
def Z0K (n : Nat) (e : Int) : Bool := decide (n < big ∧ -32768 ≤ e ∧ e ≤ 32768)
theorem Z0X {n : Nat} {e : Int} : Z0K n e = true ↔ n < big ∧ -32768 ≤ e ∧ e ≤ 32768 := decide_eq_true_iff
theorem Z65 {n : Nat} {e : Int} (h : n < big) (g : e ≥ -32768) : Z0K n e = decide (e ≤ 32768) := by
 rw [Bool.eq_iff_iff, Z0X, decide_eq_true_iff]
 exact ⟨fun c => c.2.2, fun c => ⟨h, g, c⟩⟩
theorem Z3q {n : Nat} {e : Int} (h : ¬ (n < big ∧ -32768 ≤ e ∧ e ≤ 32768)) : Z0K n e = false := by
 rw [Bool.eq_false_iff]; exact fun c => h (Z0X.1 c)
theorem Z5p (v : Nat) : (((ofN v).length : Nat) : Int) ≤ 1024 ↔ v < big := by rw [← Z2a]; omega
theorem Z66 (s : Bool) (l : List Int) (e : Int) (k : Nat) (hw : Ws l) (hl : l.length < 17592186044000) (hk : 100000000000000000 ≤ k) : Z1c.f k s l e = some (Z0K (val l) e) := by
 unfold Z1c.f
 rw [Z0W l k hw (by omega) (by omega), Z0]
 by_cases h : val l < big
 ·rw [if_pos ((Z5p _).2 h)]
  by_cases g : e ≥ -32768
  ·rw [if_pos g, Z65 h g]
  rw [if_neg g, Z3q (fun c => g c.2.1)]
 rw [if_neg (fun c => h ((Z5p _).1 c))]; rw [Z3q (fun c => h c.1)]
theorem Z1Y (s : Bool) (l : List Int) (e : Int) (k : Nat) (hw : Ws l) (hl : l.length < 17592186044000) (hk : 100000000000000000 ≤ k) : Zb.f k s l e = some (Z0K (val l) e) := by
 unfold Zb.f
 rw [Z66 s l e k hw hl hk, Z0]
theorem Z7C (s : Bool) (l : List Int) (e : Int) (k : Nat) (hw : Ws l) (hl : l.length < 17592186044000) (hk : 100000000000000000 ≤ k) : Z0y.f k s l e = some (Z0K (val l) e) := by
 unfold Z0y.f
 rw [Z7c l k hw (by omega) (by omega), Z0]
 by_cases h : val l < big
 ·rw [if_neg (show ¬ decide (¬ val l < big) = true by rw [decide_eq_true_iff]; exact fun c => c h)]
  by_cases g : e ≥ -32768
  ·rw [if_pos g, Z65 h g]
  rw [if_neg g, Z3q (fun c => g c.2.1)]
 rw [if_pos (decide_eq_true h)]; rw [Z3q (fun c => h c.1)]
def Z3r (d : Bool × List Int × Int) : Bool × List Int × Int × Int := if Z0K (val d.2.1) d.2.2 = true then (d.1, d.2.1, d.2.2, 0) else (false, [], 0, 3)
theorem Z67 (s : Bool) (l : List Int) (e : Int) (k : Nat) (hw : Ws l) (hl : l.length < 17592186044000) (hk : 100000000000000000 ≤ k) : Z0t.f k s l e = some (Z3r (s, l, e)) := by
 unfold Z0t.f Z3r
 rw [Z66 s l e k hw hl hk, Z0]
 split <;> rfl
structure Rt (l : List Int) (e : Int) : Prop where
 ws : Ws l
 len : l.length < 17592186044000
 sm : (ofN (val l)).length ≤ 8192
 lo : -1000000 ≤ e
 hi : e ≤ 1000000
theorem Rt.lowE {l : List Int} {e : Int} (h : Rt l e) : Nf.lowE ≤ e := by have := h.lo; unfold Nf.lowE; omega
theorem Z7D (s : Bool) (l : List Int) (e : Int) (k : Nat) (h : Rt l e) (hk : 100000000000000000 ≤ k) : Z1B.f k s l e = some (cf s (val l) e) := by
 unfold Z1B.f
 rw [Z1W s l e k h.ws h.len (by have := h.lo; omega) (by have := h.hi; omega) hk, Z0]
theorem Z9R (s : Bool) (l : List Int) (e : Int) (k : Nat) (h : Rt l e) (hk : 100000000000000000 ≤ k) : Z0V.f k s l e = some (cf s (val l) e) := by
 unfold Z0V.f
 rw [Z2W s l e k h.ws h.len (by have := h.lo; omega) (by have := h.hi; omega) hk, Z0]
theorem Zb1 (a b : Int) : mn a b = min a b := by unfold mn; rw [Int.min_def]; split <;> split <;> omega
theorem Z3s {a E : Int} (h : E ≤ a) (h1 : a - E < 1000000000000) : wrap64 (a - E) = (((a - E).toNat : Nat) : Int) := by
 rw [Zc (by omega) (by omega)]; omega
theorem Z6M (s1 s2 : Bool) (a b : Nat) (e1 e2 E : Int) (k : Nat) (hE : E = min e1 e2) (ha : (ofN a).length ≤ 8192) (hb : (ofN b).length ≤ 8192) (l1 : -2000000 ≤ e1) (u1 : e1 ≤ 2000000) (l2 : -2000000 ≤ e2) (u2 : e2 ≤ 2000000) (hk : 100000000000000000 ≤ k) :
  Z0a.f k s1 (ofN a) e1 s2 (ofN b) e2 = some (ofN (a * 2 ^ (e1 - E).toNat), ofN (b * 2 ^ (e2 - E).toNat), E) := by
 unfold Z0a.f
 have h1 : E ≤ e1 := by omega
 have h2 : E ≤ e2 := by omega
 have h3 : (e1 - E).toNat ≤ 4000000 := by omega
 have h4 : (e2 - E).toNat ≤ 4000000 := by omega
 rw [Zb1, ← hE, Z3s h1 (by omega), Z3s h2 (by omega)]
 generalize (e1 - E).toNat = i at *
 generalize (e2 - E).toNat = j at *
 rw [Z63 (ofN a) i k (Zf a) (by omega) (by omega) (by omega), Z0, Z63 (ofN b) j k (Zf b) (by omega) (by omega) (by omega), Z0, Z1, Z1]
theorem Z5q {x y : Nat} : Z1e x y ≥ 0 ↔ y ≤ x := by unfold Z1e; split <;> (try split) <;> omega
theorem Zax {s1 s2 : Bool} {x y : Nat} {E : Int} (hE : lowE ≤ E) :
  (s1 = s2 → cf s1 (x + y) E = cz (Vz (sg s1 x) E + Vz (sg s2 y) E) lowE) ∧ (s1 ≠ s2 → y ≤ x → cf s1 (x - y) E = cz (Vz (sg s1 x) E + Vz (sg s2 y) E) lowE) ∧ (s1 ≠ s2 → x ≤ y → cf s2 (y - x) E = cz (Vz (sg s1 x) E + Vz (sg s2 y) E) lowE) := by
 refine ⟨?_, ?_, ?_⟩
 ·rintro rfl; rw [Z3o, Z3p hE, Zav, Z3Z]
 ·intro h g
  have : s2 = !s1 := by cases s1 <;> cases s2 <;> simp_all
  rw [Z3o, Z3p hE, Z7A _ g, Z3Z, this]
 intro h g
 have : s1 = !s2 := by cases s1 <;> cases s2 <;> simp_all
 rw [Z3o, Z3p hE, Z7A _ g, Z3Z, this, Int.add_comm]
theorem Z97 {s : Bool} {o : Nat} {e E : Int} (h : lowE ≤ E) (g : E ≤ e) : Vz (sg s (o * 2 ^ (e - E).toNat)) E = Vz (sg s o) e := by
 rw [Z3W, Z3Y h]; congr 1; omega
theorem Z3G {n : Nat} {e : Int} (h : lowE ≤ e) (s : Bool) : Vz (sg s (od n)) (e + (tz n : Int)) = Vz (sg s n) e := by
 rw [← Z3Y h, ← Z3W, Z39]
theorem Z3H {n : Nat} (h : n ≠ 0) (hl : (ofN n).length ≤ 8192) : (tz n : Int) ≤ 600000 := by
 have := Z3V h
 have := Z3a hl
 omega
theorem Z9S (s1 s2 : Bool) (l1 l2 : List Int) (e1 e2 : Int) (k : Nat) (h1 : Rt l1 e1) (h2 : Rt l2 e2) (hk : 200000000000000000 ≤ k) : Zi.f k s1 l1 e1 s2 l2 e2 = some (cz (vl s1 l1 e1 + vl s2 l2 e2) lowE) := by
 unfold Zi.f
 have b1 := h1.lowE
 have b2 := h2.lowE
 have hv1 := h1.sm
 have hv2 := h2.sm
 have d1 := h1.lo; have d2 := h1.hi; have d3 := h2.lo; have d4 := h2.hi
 rw [Z7D s1 l1 e1 k h1 (by omega), Z0, Z7D s2 l2 e2 k h2 (by omega), Z0]
 have f1 := Z96 b1 s1 l1
 have f2 := Z96 b2 s2 l2
 have v1 : vl s1 l1 e1 = Vz (sg s1 (val l1)) e1 := rfl
 have v2 : vl s2 l2 e2 = Vz (sg s2 (val l2)) e2 := rfl
 generalize val l1 = n1 at *
 generalize val l2 = n2 at *
 by_cases z1 : n1 = 0
 ·have : (cf s1 n1 e1).2.1 = [] := by rw [z1, Z0J]
  rw [this, Z2K _ _ _ k Z1x (by simp) (by omega), Z0, if_pos (by rw [Z1l]; rfl), f2, v1, z1, Z1X, Z2e, Int.zero_add]
 have c1 := Z19 z1 s1 e1
 have o1 := Z3U z1
 rw [c1, Z2K _ _ _ k (Zf _) (by have := Z2I n1; show (ofN (od n1)).length < _; omega) (by omega), Z0]
 rw [if_neg (by rw [Z1]; simpa using o1)]
 by_cases z2 : n2 = 0
 ·have : (cf s2 n2 e2).2.1 = [] := by rw [z2, Z0J]
  rw [this, Z2K _ _ _ k Z1x (by simp) (by omega), Z0, if_pos (by rw [Z1l]; rfl), ← c1, f1, v2, z2, Z1X, Z2e, Int.add_zero]
 have c2 := Z19 z2 s2 e2
 have o2 := Z3U z2
 rw [c2, Z2K _ _ _ k (Zf _) (by have := Z2I n2; show (ofN (od n2)).length < _; omega) (by omega), Z0]
 rw [if_neg (by rw [Z1]; simpa using o2)]
 have t1 := Z3H z1 hv1
 have t2 := Z3H z2 hv2
 have p1 := Z3G b1 s1 (n := n1)
 have p2 := Z3G b2 s2 (n := n2)
 have q1 := Z2I n1
 have q2 := Z2I n2
 show Zi.j0 k s1 (ofN (od n1)) (e1 + (tz n1 : Int)) s2 (ofN (od n2)) (e2 + (tz n2 : Int)) = _
 have g1 : -2000000 ≤ e1 + (tz n1 : Int) ∧ e1 + (tz n1 : Int) ≤ 2000000 := by omega
 have g2 : -2000000 ≤ e2 + (tz n2 : Int) ∧ e2 + (tz n2 : Int) ≤ 2000000 := by omega
 rw [v1, v2, ← p1, ← p2]
 generalize od n1 = x at *
 generalize od n2 = y at *
 generalize e1 + (tz n1 : Int) = a1 at *
 generalize e2 + (tz n2 : Int) = a2 at *
 obtain ⟨k, rfl⟩ : ∃ m, k = m + 1 := ⟨k - 1, by omega⟩
 obtain ⟨E, hE⟩ : ∃ E, E = min a1 a2 := ⟨_, rfl⟩
 simp only [Zi.j0]
 rw [Z6M s1 s2 x y a1 a2 E k hE (by omega) (by omega) g1.1 g1.2 g2.1 g2.2 (by omega), Z0]
 have lE : lowE ≤ E := by have := g1.1; have := g2.1; unfold lowE; omega
 have bE : -2000000 ≤ E ∧ E ≤ 2000000 := by omega
 have w1 : E ≤ a1 := by omega
 have w2 : E ≤ a2 := by omega
 have y1 : (a1 - E).toNat ≤ 4000000 := by omega
 have y2 : (a2 - E).toNat ≤ 4000000 := by omega
 have L1 := Z4k (Nat.le_trans q1 hv1) (a1 - E).toNat
 have L2 := Z4k (Nat.le_trans q2 hv2) (a2 - E).toNat
 have S1 := Z97 (s := s1) (o := x) lE w1
 have S2 := Z97 (s := s2) (o := y) lE w2
 have M1 : (ofN (x * 2 ^ (a1 - E).toNat)).length ≤ 100000 := by omega
 have M2 : (ofN (y * 2 ^ (a2 - E).toNat)).length ≤ 100000 := by omega
 generalize x * 2 ^ (a1 - E).toNat = X at *
 generalize y * 2 ^ (a2 - E).toNat = Y at *
 rw [← S1, ← S2]
 obtain ⟨r1, r2, r3⟩ := Zax (s1 := s1) (s2 := s2) (x := X) (y := Y) lE
 by_cases hs : s1 = s2
 ·rw [if_pos (by rw [beq_iff_eq]; exact hs), Z9N _ _ (Zf X) (Zf Y) (by omega) (by omega) k (by omega), Z0, Z1, Z1]
  have M3 : (ofN (X + Y)).length < 17592186044000 := by
   have := Z5o M1 M2
   omega
  rw [Z1W s1 _ E k (Zf _) M3 (by omega) (by omega) (by omega), Z0, Z1, r1 hs]
 rw [if_neg (by rw [beq_iff_eq]; exact hs)]
 obtain ⟨k, rfl⟩ : ∃ m, k = m + 1 := ⟨k - 1, by omega⟩
 simp only [Zi.j1]
 rw [Z9M _ _ k (Zf X) (Zf Y) (by omega) (by omega) (by omega), Z0, Z1, Z1]
 by_cases g : Y ≤ X
 ·rw [if_pos (Z5q.2 g), Z62 X Y g k (by omega) (by omega), Z0]
  have M3 : (ofN (X - Y)).length < 17592186044000 := by have := ZY (Nat.sub_le X Y); omega
  rw [Z1W s1 _ E k (Zf _) M3 (by omega) (by omega) (by omega), Z0, Z1, r2 hs g]
 have g' : X ≤ Y := by omega
 rw [if_neg (fun c => g (Z5q.1 c)), Z62 Y X g' k (by omega) (by omega), Z0]
 have M3 : (ofN (Y - X)).length < 17592186044000 := by have := ZY (Nat.sub_le Y X); omega
 rw [Z1W s2 _ E k (Zf _) M3 (by omega) (by omega) (by omega), Z0, Z1, r3 hs g']
structure Rs (l : List Int) (e : Int) : Prop where
 ws : Ws l
 len : l.length < 17592186044000
 sm : (ofN (val l)).length ≤ 2000
 lo : -200000 ≤ e
 hi : e ≤ 200000
theorem Rs.t {l : List Int} {e : Int} (h : Rs l e) : Rt l e := ⟨h.ws, h.len, by have := h.sm; omega, by have := h.lo; omega, by have := h.hi; omega⟩
theorem Z2f {l : List Int} {e : Int} (hw : Ws l) (hl : l.length < 17592186044000) (h : Z0K (val l) e = true) : Rs l e := by
 obtain ⟨a, b, c⟩ := Z0X.1 h
 exact ⟨hw, hl, by have := Z05 a; omega, by omega, by omega⟩
theorem Z68 (s1 s2 : Bool) (n m : Nat) : sg (s1 != s2) (n * m) = sg s1 n * sg s2 m := by
 cases s1 <;> cases s2 <;> simp [sg, Int.neg_mul, Int.mul_neg]
def Z2o (s1 : Bool) (l1 : List Int) (e1 : Int) (s2 : Bool) (l2 : List Int) (e2 : Int) : Int := Vz (sg s1 (val l1) * sg s2 (val l2)) (e1 + e2)
theorem Z5r (n m : Nat) : (ofN (n * m)).length ≤ (ofN n).length + (ofN m).length := by
 rw [ZX, Nat.pow_add]
 have a := (ZX n _).1 (Nat.le_refl _)
 have b := (ZX m _).1 (Nat.le_refl _)
 exact Nat.mul_lt_mul_of_lt_of_le a (Nat.le_of_lt b) (pow_pos _)
theorem Z8G {a b : Int} (ha : -1000000 ≤ a) (hb : -1000000 ≤ b) : lowE ≤ a + b := by unfold lowE; omega
theorem Z9T (s1 s2 : Bool) (l1 l2 : List Int) (e1 e2 : Int) (k : Nat) (h1 : Rt l1 e1) (h2 : Rt l2 e2) (hk : 100000000000000000 ≤ k) : Z0x.f k s1 l1 e1 s2 l2 e2 = some (cz (Z2o s1 l1 e1 s2 l2 e2) lowE) := by
 unfold Z0x.f Z2o
 have a1 := h1.sm; have a2 := h2.sm; have b1 := h1.lo; have b2 := h2.lo; have c1 := h1.hi; have c2 := h2.hi; have n1 := h1.len; have n2 := h2.len
 have hm := Z5r (val l1) (val l2)
 have hp : (ofN (val l1)).length * ((ofN (val l2)).length + 2) ≤ 8192 * 8194 := Nat.mul_le_mul a1 (by omega)
 rw [Z9O l1 l2 k h1.ws h2.ws n1 n2 (by omega) (by omega), Z0, Zc (by omega) (by omega), Z1W _ _ _ k (Zf _) (by omega) (by omega) (by omega) hk, Z0, Z1, Z3o, Z3p (Z8G b1 b2), Z68]
def am (n : Nat) (e : Int) : Nat := n * 2 ^ (e - lowE).toNat
theorem Z40 (s : Bool) (n : Nat) (e : Int) : Vz (sg s n) e = sg s (am n e) := by unfold Vz am; rw [Z3W]
theorem Z3b {n : Nat} (h : n ≠ 0) (e : Int) : am n e ≠ 0 := Nat.ne_of_gt (Nat.mul_pos (Nat.pos_of_ne_zero h) (Nat.pow_pos (by decide)))
theorem Z6N {n : Nat} (h : n ≠ 0) {e : Int} (g : lowE ≤ e) : (bl (am n e) : Int) = bl n + (e - lowE) := by
 unfold am; rw [Z2j h]; omega
theorem Z8H {n : Nat} {e : Int} (h : lowE ≤ e) : am (od n) (e + (tz n : Int)) = am n e := by
 have := Z3G h false (n := n)
 rw [Z40, Z40] at this
 have := congrArg Int.natAbs this
 rwa [Z1z, Z1z] at this
theorem Z2g : od 0 = 0 := by unfold od; rw [Nat.zero_div]
structure Wl (l : List Int) : Prop where
 ws : Ws l
 len : l.length < 17592186044000
theorem Zay : Wl [] := ⟨Z1x, by simp⟩
theorem Z2p {v : Nat} (h : (ofN v).length < 17592186044000) : Wl (ofN v) := ⟨Zf v, h⟩
theorem Z6O (s : Bool) {n : Nat} (e : Int) (h : (ofN n).length < 17592186044000) : Wl (cf s n e).2.1 := by
 by_cases z : n = 0
 ·rw [z, Z0J]; exact Zay
 rw [Z19 z]; exact Z2p (Nat.lt_of_le_of_lt (Z2I n) h)
theorem Z6P {Z : Int} (e : Int) (h : (ofN Z.natAbs).length < 17592186044000) : Wl (cz Z e).2.1 := Z6O _ _ h
theorem Rs.wl {l : List Int} {e : Int} (h : Rs l e) : Wl l := ⟨h.ws, h.len⟩
theorem Rt.wl {l : List Int} {e : Int} (h : Rt l e) : Wl l := ⟨h.ws, h.len⟩
def bad (c : Int) : Bool × List Int × Int × Int := (false, [], 0, c)
theorem Z5s {n : Nat} {e : Int} (h : (ofN n).length ≤ 16384) (h1 : e ≤ 2000000) : (ofN (am n e)).length ≤ 120000 := by
 refine Nat.le_trans (Z4k h _) ?_
 have : (e - lowE).toNat ≤ 6000000 := by unfold lowE; omega
 omega
theorem Z3c (s : Bool) (l : List Int) (e : Int) : (vl s l e).natAbs = am (val l) e := by unfold vl; rw [Z40, Z1z]
theorem Z8I {s1 s2 : Bool} {l1 l2 : List Int} {e1 e2 : Int} (h1 : Rt l1 e1) (h2 : Rt l2 e2) : (ofN (vl s1 l1 e1 + vl s2 l2 e2).natAbs).length ≤ 120001 := by
 have a := Z5s (n := val l1) (e := e1) (by have := h1.sm; omega) (by have := h1.hi; omega)
 have b := Z5s (n := val l2) (e := e2) (by have := h2.sm; omega) (by have := h2.hi; omega)
 have c : (vl s1 l1 e1 + vl s2 l2 e2).natAbs ≤ am (val l1) e1 + am (val l2) e2 := by
  have := Int.natAbs_add_le (vl s1 l1 e1) (vl s2 l2 e2)
  rwa [Z3c, Z3c] at this
 exact Nat.le_trans (ZY c) (Z5o a b)
theorem Z8J {s1 s2 : Bool} {l1 l2 : List Int} {e1 e2 : Int} (h1 : Rt l1 e1) (h2 : Rt l2 e2) : (ofN (Z2o s1 l1 e1 s2 l2 e2).natAbs).length ≤ 120000 := by
 unfold Z2o
 rw [← Z68, Z40, Z1z]
 have a := h1.sm; have b := h2.sm; have c := h1.hi; have d := h2.hi
 exact Z5s (Nat.le_trans (Z5r _ _) (by omega)) (by omega)
noncomputable def Z4l (Z : Int) (n1 : Nat) (e1 : Int) (n2 : Nat) (e2 : Int) : Bool × List Int × Int × Int := if Z0K n1 e1 = true ∧ Z0K n2 e2 = true then Z3r (cz Z lowE) else bad 2
theorem Z9U (s1 s2 : Bool) (l1 l2 : List Int) (e1 e2 : Int) (k : Nat) (w1 : Wl l1) (w2 : Wl l2) (hk : 200000000000000000 ≤ k) : Z1q.f k s1 l1 e1 s2 l2 e2 = some (Z4l (vl s1 l1 e1 + vl s2 l2 e2) (val l1) e1 (val l2) e2) := by
 unfold Z1q.f Z4l
 rw [Z1Y s1 l1 e1 k w1.ws w1.len (by omega), Z0]
 by_cases h1 : Z0K (val l1) e1 = true
 ·rw [if_pos h1, Z1Y s2 l2 e2 k w2.ws w2.len (by omega), Z0]
  by_cases h2 : Z0K (val l2) e2 = true
  ·have g1 := Z2f w1.ws w1.len h1
   have g2 := Z2f w2.ws w2.len h2
   have c := Z6P lowE (Nat.lt_of_le_of_lt (Z8I (s1 := s1) (s2 := s2) g1.t g2.t) (by decide))
   rw [if_pos h2, if_pos ⟨h1, h2⟩, Z9S s1 s2 l1 l2 e1 e2 k g1.t g2.t hk, Z0, Z67 _ _ _ k c.ws c.len (by omega), Z0]
  rw [if_neg h2, if_neg (fun c => h2 c.2)]; rfl
 rw [if_neg h1, if_neg (fun c => h1 c.1)]; rfl
theorem Z9V (s1 s2 : Bool) (l1 l2 : List Int) (e1 e2 : Int) (k : Nat) (w1 : Wl l1) (w2 : Wl l2) (hk : 200000000000000000 ≤ k) : Z16.f k s1 l1 e1 s2 l2 e2 = some (Z4l (Z2o s1 l1 e1 s2 l2 e2) (val l1) e1 (val l2) e2) := by
 unfold Z16.f Z4l
 rw [Z1Y s1 l1 e1 k w1.ws w1.len (by omega), Z0]
 by_cases h1 : Z0K (val l1) e1 = true
 ·rw [if_pos h1, Z1Y s2 l2 e2 k w2.ws w2.len (by omega), Z0]
  by_cases h2 : Z0K (val l2) e2 = true
  ·have g1 := Z2f w1.ws w1.len h1
   have g2 := Z2f w2.ws w2.len h2
   have c := Z6P lowE (Nat.lt_of_le_of_lt (Z8J (s1 := s1) (s2 := s2) g1.t g2.t) (by decide))
   rw [if_pos h2, if_pos ⟨h1, h2⟩, Z9T s1 s2 l1 l2 e1 e2 k g1.t g2.t (by omega), Z0, Z67 _ _ _ k c.ws c.len (by omega), Z0]
  rw [if_neg h2, if_neg (fun c => h2 c.2)]; rfl
 rw [if_neg h1, if_neg (fun c => h1 c.1)]; rfl
theorem Z98 (n : Nat) : bl n = bl (od n) + tz n := by
 by_cases h : n = 0
 ·subst h; rw [Z2g, Z0z]; unfold tz; rw [dif_neg (by simp)]
 have := Z2j (Z3U h) (tz n)
 rwa [Z39] at this
theorem Z0Y {v : Nat} (h : v < 18446744073709551616) : (ofN v).length ≤ 1 := (ZX v 1).2 (by rw [Nat.pow_one]; exact h)
theorem Z7E {d : Bool × List Int × Int} (h : Z0K (val d.2.1) d.2.2 = true) : Z3r d = (d.1, d.2.1, d.2.2, 0) := by unfold Z3r; exact if_pos h
theorem Z7F (s : Bool) (n : Nat) (e : Int) : val (cf s n e).2.1 = od n := by
 by_cases h : n = 0
 ·rw [h, Z0J, Z2g]; rfl
 rw [Z19 h]; exact Z1 _
theorem Z99 (n : Nat) : od (od n) = od n := by
 by_cases h : n = 0
 ·rw [h, Z2g, Z2g]
 obtain ⟨t, m, e⟩ := Z0T n h
 rw [Z21 e]
 exact Z21 (t := 0) (by rw [Nat.pow_zero, Nat.one_mul])
def ZU (x : Int) : Bool := decide (9223372036854775808 ≤ x)
noncomputable def ZP (x : Int) : Bool × List Int × Int × Int :=
 if Nb.Z04 x then ((cf (ZU x) (Nb.ZH x).toNat (Nb.Z0i x)).1, (cf (ZU x) (Nb.ZH x).toNat (Nb.Z0i x)).2.1, (cf (ZU x) (Nb.ZH x).toNat (Nb.Z0i x)).2.2, 0) else (false, [], 0, 5)
theorem Z9W {x : Int} (h : Nb.W64 x) : Nb.W64 (x / 4503599627370496) := by
 obtain ⟨a, b⟩ := h; unfold Nb.W64; omega
theorem Z8K {x : Int} (h : Nb.W64 x) : (x / 9223372036854775808 == 1) = ZU x := by
 obtain ⟨a, b⟩ := h
 unfold ZU
 rw [Bool.eq_iff_iff, beq_iff_eq, decide_eq_true_iff]; omega
theorem Z5t {v : Int} (h0 : 0 ≤ v) (h1 : v < 18446744073709551616) : Ws [v] := Z1j.2 ⟨⟨h0, h1⟩, Z1x⟩
theorem Z4m (v : Int) : val [v] = v.toNat := by rw [Z0H, Z1l, Nat.mul_zero, Nat.add_zero]
theorem Z4n (v : Int) : [v].length < 17592186044000 := by show 1 < 17592186044000; omega
theorem Z8L (x : Int) (k : Nat) (hx : Nb.W64 x) (hk : 100000000000000000 ≤ k) : Z1w.f k x = some (ZP x) := by
 unfold Z1w.f ZP
 have hb := Nb.Z3i hx
 have hf := Nb.Z4L hx
 have hi := Nb.Z4v hx
 have e0 : wrap64 (Go.bits .and .u64 (x / 4503599627370496) 2047) = Nb.ex x := by
  rw [Nb.Z50 (Z9W hx)]
  exact Zc (by unfold Nb.ex at hb; omega) (by unfold Nb.ex at hb; omega)
 rw [e0, Z8K hx, Nb.Z51 hx]
 have ef : x % 4503599627370496 = Nb.fr x := rfl
 rw [ef]
 by_cases h : Nb.ex x = 2047
 ·rw [if_pos h, if_neg (fun c => by have := hi.1 c; omega)]
 rw [if_neg h, if_pos (hi.2 (by omega))]
 by_cases z : Nb.ex x = 0
 ·have m : Nb.ZH x = Nb.fr x := by unfold Nb.ZH; exact if_pos z
  have p : Nb.Z0i x = -1074 := by unfold Nb.Z0i; exact if_pos z
  rw [if_pos z, Z1W _ _ _ k (Z5t hf.1 (by omega)) (Z4n _) (by decide) (by decide) hk, Z0, Z4m, m, p]; rfl
 have m : Nb.ZH x = Nb.fr x + 4503599627370496 := by unfold Nb.ZH; exact if_neg z
 have p : Nb.Z0i x = Nb.ex x - 1075 := by unfold Nb.Z0i; exact if_neg z
 rw [if_neg z, Nb.Z8b hf.1 hf.2, Zc (by omega) (by omega), Z1W _ _ _ k (Z5t (by omega) (by omega)) (Z4n _) (by omega) (by omega) hk, Z0, Z4m, m, p]
theorem Z8M (x : Int) (k : Nat) (hx : Nb.W64 x) (hk : 100000000000000000 ≤ k) : ZM.f k x = some (ZP x) := by
 unfold ZM.f ZP
 have hb := Nb.Z3i hx
 have hf := Nb.Z4L hx
 rw [Nb.Z6q hx, Z0, Nb.Z79 hx, Z0]
 by_cases h : Nb.Z04 x
 ·rw [if_pos (decide_eq_true h), if_pos h]
  by_cases z : Nb.ex x = 0
  ·have m : Nb.ZH x = Nb.fr x := by unfold Nb.ZH; exact if_pos z
   have p : Nb.Z0i x = -1074 := by unfold Nb.Z0i; exact if_pos z
   have e : Nb.fr x = (((Nb.fr x).toNat : Nat) : Int) := by omega
   have hw : (Nb.fr x).toNat < 18446744073709551616 := by omega
   have hl := Z0Y hw
   show (if Nb.ex x > 0 then _ else ((Z0D.f k (Nb.fr x)).bind _)) = _
   rw [if_neg (by omega), e, Z95 _ k hw (by omega), Z0, Z2W _ _ _ k (Zf _) (by omega) (by omega) (by omega) hk, Z0, Z1, m, p]; rfl
  have m : Nb.ZH x = Nb.fr x + 4503599627370496 := by unfold Nb.ZH; exact if_neg z
  have p : Nb.Z0i x = Nb.ex x - 1075 := by unfold Nb.Z0i; exact if_neg z
  have e : IntKind.u64.wrap (Nb.fr x + 4503599627370496) = (((Nb.fr x + 4503599627370496).toNat : Nat) : Int) := by rw [Z18 (by omega) (by omega)]; omega
  have hw : (Nb.fr x + 4503599627370496).toNat < 18446744073709551616 := by omega
  have hl := Z0Y hw
  show (if Nb.ex x > 0 then ((Z0D.f k (IntKind.u64.wrap (Nb.fr x + 4503599627370496))).bind _) else _) = _
  rw [if_pos (by omega), e, Z95 _ k hw (by omega), Z0]
  show ((Z06.f k (ZU x) (ofN (Nb.fr x + 4503599627370496).toNat) (wrap64 (Nb.ex x - 1075))).bind _) = _
  rw [Zc (by omega) (by omega), Z2W _ _ _ k (Zf _) (by omega) (by omega) (by omega) hk, Z0, Z1, m, p]
 rw [if_neg (by rw [decide_eq_true_iff]; exact h), if_neg h]
def toX (o : Nat) (E : Int) : Nat := if E + (bl o : Int) - 1 < -1022 then o * 2 ^ (E + 1074).toNat else (E + (bl o : Int) + 1022).toNat * 4503599627370496 + (o * 2 ^ (53 - bl o) - 4503599627370496)
def sX (s : Bool) : Int := if s = true then 9223372036854775808 else 0
noncomputable def toS (s : Bool) (n : Nat) (e : Int) : Int × Bool :=
 if Z0K n e = true then (if n = 0 then (0, true) else if (bl (od n) : Int) > 53 ∨ e + (tz n : Int) + (bl (od n) : Int) - 1 > 1023 ∨ e + (tz n : Int) < -1074 then (0, false) else ((toX (od n) (e + (tz n : Int)) : Int) + sX s, true)) else (0, false)
theorem Z5u {o : Nat} (h0 : o ≠ 0) (h : o < 18446744073709551616) : ofN o = [(o : Int)] := by
 rw [Z1U h0, Nat.mod_eq_of_lt h, Nat.div_eq_of_lt h, Zv]
theorem Z1M {o : Nat} (h : o ≠ 0) : 2 ^ (bl o - 1) ≤ o ∧ o < 2 ^ bl o ∧ 1 ≤ bl o := by
 have a := Z1R h
 have b := Z17 o
 have c : 1 ≤ bl o := Nat.pos_of_ne_zero (Z1G h)
 refine ⟨?_, b, c⟩
 rw [show bl o = bl o - 1 + 1 by omega, Nat.pow_succ] at a
 omega
theorem p52 {i : Nat} (h : i ≤ 52) : 2 ^ i ≤ 4503599627370496 := Nat.le_trans (Nat.pow_le_pow_right (by decide) h) (by decide : 2 ^ 52 ≤ 4503599627370496)
theorem p53 {i : Nat} (h : i ≤ 53) : 2 ^ i ≤ 9007199254740992 := Nat.le_trans (Nat.pow_le_pow_right (by decide) h) (by decide : 2 ^ 53 ≤ 9007199254740992)
theorem Z5v {o : Nat} {E : Int} (h0 : o ≠ 0) (hE : -1074 ≤ E) (hT : E + (bl o : Int) - 1 < -1022) : o * 2 ^ (E + 1074).toNat < 4503599627370496 := by
 obtain ⟨a, b, c⟩ := Z1M h0
 have : o * 2 ^ (E + 1074).toNat < 2 ^ bl o * 2 ^ (E + 1074).toNat := Nat.mul_lt_mul_of_pos_right b (Nat.pow_pos (by decide))
 rw [← Nat.pow_add] at this
 exact Nat.lt_of_lt_of_le this (p52 (by omega))
theorem Z8N {o : Nat} (h0 : o ≠ 0) (hb : bl o ≤ 53) : 4503599627370496 ≤ o * 2 ^ (53 - bl o) ∧ o * 2 ^ (53 - bl o) < 9007199254740992 := by
 obtain ⟨a, b, c⟩ := Z1M h0
 constructor
 ·have : 2 ^ (bl o - 1) * 2 ^ (53 - bl o) ≤ o * 2 ^ (53 - bl o) := Nat.mul_le_mul_right _ a
  rw [← Nat.pow_add, show bl o - 1 + (53 - bl o) = 52 by omega] at this
  exact this
 have : o * 2 ^ (53 - bl o) < 2 ^ bl o * 2 ^ (53 - bl o) := Nat.mul_lt_mul_of_pos_right b (Nat.pow_pos (by decide))
 rw [← Nat.pow_add, show bl o + (53 - bl o) = 53 by omega] at this
 exact this
theorem Z5w {o d : Nat} (hd : d ≤ 64) (h : o * 2 ^ d < 18446744073709551616) : shl .u64 (o : Int) (d : Int) = ((o * 2 ^ d : Nat) : Int) := by
 rw [Z2l o d hd, Nat.mod_eq_of_lt h]
theorem Z69 (s : Bool) (E F : Int) (k : Nat) (h0 : 0 ≤ E) (h1 : E ≤ 2047) (f0 : 0 ≤ F) (f1 : F < 4503599627370496) (hk : 1 ≤ k) : ZQ.f k s E F = some (E * 4503599627370496 + F + sX s, 0) := by
 unfold ZQ.f
 obtain ⟨k, rfl⟩ : ∃ m, k = m + 1 := ⟨k - 1, by omega⟩
 rw [if_neg (by omega), if_neg (by omega), decide_eq_false (by omega)]
 simp only [ZQ.j0]
 rw [if_neg (by decide), Z18 (x := E) (by omega) (by omega), Z18 (x := E * 4503599627370496) (by omega) (by omega), Z18 (x := E * 4503599627370496 + F) (by omega) (by omega)]
 unfold sX
 by_cases u : s = true
 ·rw [if_pos u, if_pos u, Z18 (by omega) (by omega)]
 rw [if_neg u, if_neg u, Int.add_zero]
theorem Zaz (s : Bool) (l : List Int) (e : Int) (k : Nat) (w : Wl l) (hk : 300000000000000000 ≤ k) : Zj.f k s l e = some (toS s (val l) e) := by
 unfold Zj.f toS
 rw [Z7C s l e k w.ws w.len (by omega), Z0]
 by_cases f : Z0K (val l) e = true
 ·have g := Z2f w.ws w.len f
  rw [if_pos f, if_pos f, Z9R s l e k g.t (by omega), Z0]
  have gl := g.lo; have gh := g.hi; have gs := g.sm
  generalize val l = n at *
  by_cases z : n = 0
  ·rw [z, Z0J, if_pos (show ((([] : List Int).length : Nat) : Int) = 0 from rfl), if_pos rfl]
  have hl := Z2I n
  have t1 := Z3H z (by omega)
  have o0 := Z3U z
  have hbl := Z3a (Nat.le_trans hl gs)
  rw [Z19 z, if_neg z, if_neg (show ¬ (((ofN (od n)).length : Nat) : Int) = 0 from fun c => o0 (Z8F.1 c))]
  show ((ZG.f k (ofN (od n))).bind _) = _
  rw [Z4f (ofN (od n)) k (Zf _) (by omega) (by omega), Z0, Z1]
  obtain ⟨k, rfl⟩ : ∃ m, k = m + 1 := ⟨k - 1, by omega⟩
  generalize od n = o at *
  have hE : -1000000 ≤ e + (tz n : Int) ∧ e + (tz n : Int) ≤ 1000000 := by omega
  generalize e + (tz n : Int) = E at *
  have eT : wrap64 ((wrap64 (E + (bl o : Int))) - 1) = E + (bl o : Int) - 1 := by rw [Zc (x := E + (bl o : Int)) (by omega) (by omega), Zc (by omega) (by omega)]
  show (if (bl o : Int) > 53 then Zj.j0 (k + 1) (bl o : Int) (wrap64 ((wrap64 (E + (bl o : Int))) - 1)) true s (ofN o) E else if E < -1074 then Zj.j0 (k + 1) (bl o : Int) (wrap64 ((wrap64 (E + (bl o : Int))) - 1)) true s (ofN o) E else Zj.j0 (k + 1) (bl o : Int) (wrap64 ((wrap64 (E + (bl o : Int))) - 1)) (decide (wrap64 ((wrap64 (E + (bl o : Int))) - 1) > 1023)) s (ofN o) E) = _
  rw [eT]
  have no : Zj.j0 (k + 1) (bl o : Int) (E + (bl o : Int) - 1) true s (ofN o) E = some (0, false) := by simp only [Zj.j0]; rw [if_pos trivial]
  by_cases q1 : (bl o : Int) > 53
  ·rw [if_pos q1, if_pos (.inl q1), no]
  rw [if_neg q1]
  by_cases q3 : E < -1074
  ·rw [if_pos q3, if_pos (.inr (.inr q3)), no]
  rw [if_neg q3]
  by_cases q2 : E + (bl o : Int) - 1 > 1023
  ·rw [if_pos (.inr (.inl q2)), decide_eq_true q2, no]
  rw [if_neg (fun c => c.elim q1 (fun c => c.elim q2 q3)), decide_eq_false q2]
  obtain ⟨a, b, c⟩ := Z1M o0
  have o53 : o < 9007199254740992 := Nat.lt_of_lt_of_le b (p53 (by omega))
  rw [Z5u o0 (by omega)]
  simp only [Zj.j0]
  have hr : rd [(o : Int)] 0 = (o : Int) := rfl
  have h1 : (0 : Int) < (([(o : Int)].length : Nat) : Int) := by show (0 : Int) < ((1 : Nat) : Int); omega
  rw [if_neg (by decide), hr]
  unfold toX
  by_cases T : E + (bl o : Int) - 1 < -1022
  ·have sm := Z5v o0 (by omega) T
   have ed : IntKind.u64.wrap (wrap64 (E + 1074)) = (((E + 1074).toNat : Nat) : Int) := by rw [Zc (by omega) (by omega), Z18 (by omega) (by omega)]; omega
   have dd : (E + 1074).toNat ≤ 64 := by omega
   rw [if_pos T, if_pos h1, ed, if_pos (Int.natCast_nonneg _), Z5w dd (by omega), if_pos T]
   generalize o * 2 ^ (E + 1074).toNat = M at *
   rw [Z69 s 0 (M : Int) k (by omega) (by omega) (by omega) (by omega) (by omega), Z0]
   refine congrArg (fun z : Int => some (z, true)) ?_
   omega
  obtain ⟨m1, m2⟩ := Z8N o0 (by omega)
  have ed : IntKind.u64.wrap (wrap64 (53 - (bl o : Int))) = (((53 - bl o : Nat) : Nat) : Int) := by rw [Zc (by omega) (by omega), Z18 (by omega) (by omega)]; omega
  have ee : wrap64 (E + (bl o : Int) - 1 + 1023) = (((E + (bl o : Int) + 1022).toNat : Nat) : Int) := by rw [Zc (by omega) (by omega)]; omega
  rw [if_neg T, if_pos h1, ed, if_pos (Int.natCast_nonneg _), Z5w (by omega) (by omega), if_neg T, ee]
  have hX : (E + (bl o : Int) + 1022).toNat ≤ 2046 := by omega
  generalize (E + (bl o : Int) + 1022).toNat = X at *
  generalize o * 2 ^ (53 - bl o) = M at *
  have em : IntKind.u64.wrap ((M : Int) - 4503599627370496) = ((M - 4503599627370496 : Nat) : Int) := by rw [Z18 (by omega) (by omega)]; omega
  rw [em, Z69 s (X : Int) ((M - 4503599627370496 : Nat) : Int) k (by omega) (by omega) (by omega) (by omega) (by omega), Z0]
  refine congrArg (fun z : Int => some (z, true)) ?_
  omega
 rw [if_neg f, if_neg f]
theorem Z9a {n : Nat} (h : n ≠ 0) : tz (od n) = 0 := by
 obtain ⟨t, m, e⟩ := Z0T n h
 rw [Z21 e]
 exact Z1u (m := m) (by rw [Nat.pow_zero, Nat.one_mul])
theorem Z1Z {v : Nat} (h : v < 18446744073709551616) : v < big := by
 rw [← Z2a]
 have := Z0Y h
 omega
theorem Z1C {x : Int} (hx : Nb.W64 x) : 0 ≤ Nb.ex x ∧ Nb.ex x ≤ 2047 ∧ 0 ≤ Nb.fr x ∧ Nb.fr x < 4503599627370496 ∧ x % 9223372036854775808 = Nb.ex x * 4503599627370496 + Nb.fr x ∧ x = Nb.ex x * 4503599627370496 + Nb.fr x + sX (ZU x) := by
 obtain ⟨a, b⟩ := hx
 have s : sX (ZU x) = if 9223372036854775808 ≤ x then 9223372036854775808 else 0 := by
  unfold sX ZU
  by_cases h : 9223372036854775808 ≤ x
  ·rw [if_pos (decide_eq_true h), if_pos h]
  rw [if_neg (by rw [decide_eq_true_iff]; exact h), if_neg h]
 rw [s]
 unfold Nb.ex Nb.fr
 split <;> omega
theorem Z4F {x : Int} (hx : Nb.W64 x) (h : Nb.Z04 x) : Z0K (val (ZP x).2.1) (ZP x).2.2.1 = true := by
 unfold ZP
 rw [if_pos h]
 have p := Nb.Z3j hx h
 have m := Nb.Z2b hx
 show Z0K (val (cf (ZU x) (Nb.ZH x).toNat (Nb.Z0i x)).2.1) (cf (ZU x) (Nb.ZH x).toNat (Nb.Z0i x)).2.2 = true
 rw [Z7F]
 refine Z0X.2 ⟨Z1Z (Nat.lt_of_le_of_lt (Z3n _) (by omega)), ?_⟩
 by_cases z : (Nb.ZH x).toNat = 0
 ·rw [z, Z0J]; exact ⟨by show (-32768 : Int) ≤ 0; omega, by show (0 : Int) ≤ 32768; omega⟩
 rw [Z19 z]
 have t := Z3V z
 have b : bl (Nb.ZH x).toNat ≤ 53 := ZO.2 (by show _ < 9007199254740992; omega)
 exact ⟨by show -32768 ≤ Nb.Z0i x + (tz (Nb.ZH x).toNat : Int); omega, by show Nb.Z0i x + (tz (Nb.ZH x).toNat : Int) ≤ 32768; omega⟩
theorem Z3d {x : Int} (hx : Nb.W64 x) : Nb.ZH x = 0 ↔ x % 9223372036854775808 = 0 := by
 obtain ⟨a1, a2, a3, a4, a5, a6⟩ := Z1C hx
 unfold Nb.ZH
 by_cases q : Nb.ex x = 0
 ·rw [if_pos q]; omega
 rw [if_neg q]; omega
def rndI (v : Nat) (e E : Int) : Nat := if E ≤ e then v * 2 ^ (e - E).toNat else rnd v (E - e).toNat
def Z3t (v : Nat) (e E : Int) : Bool := if E ≤ e then false else decide (v % 2 ^ (E - e).toNat ≠ 0)
theorem Z5x {v : Nat} (h : v < 18446744073709551616) : Z0M.f (ofN v) = some (v : Int) := by
 unfold Z0M.f
 by_cases h0 : v = 0
 ·subst h0; rw [Zv]; rfl
 rw [Z5u h0 h]; rfl
theorem Z4G {v n m : Nat} (h : bl v ≤ n + m) : v / 2 ^ n < 2 ^ m := by
 rw [Nat.div_lt_iff_lt_mul (Nat.pow_pos (by decide)), ← Nat.pow_add, Nat.add_comm m n]
 exact Nat.lt_of_lt_of_le (Z17 v) (Nat.pow_le_pow_right (by decide) h)
theorem Z2X {v n m : Nat} (h : bl v + n ≤ m) : v * 2 ^ n < 2 ^ m := by
 by_cases h0 : v = 0
 ·subst h0; rw [Nat.zero_mul]; exact Nat.pow_pos (by decide)
 have := Z17 (v * 2 ^ n)
 rw [Z2j h0] at this
 exact Nat.lt_of_lt_of_le this (Nat.pow_le_pow_right (by decide) h)
theorem p54 : (2 : Nat) ^ 54 = 18014398509481984 := by decide
theorem ZaA {v n m : Nat} (hn : 1 ≤ n) (h : bl v ≤ n + m) : rnd v n ≤ 2 ^ m := by
 refine Z4V hn ?_
 rw [← Nat.pow_add, Nat.add_comm m n]
 exact Nat.le_of_lt (Nat.lt_of_lt_of_le (Z17 v) (Nat.pow_le_pow_right (by decide) h))
theorem Z9X {v : Nat} {e E : Int} {m : Nat} (h : (bl v : Int) + e - E ≤ m) : rndI v e E ≤ 2 ^ m := by
 unfold rndI
 split
 ·exact Nat.le_of_lt (Z2X (by omega))
 exact ZaA (by omega) (by omega)
theorem up1 {q : Nat} (h : q < 18014398509481984) : IntKind.u64.wrap ((q : Int) + 1) = ((q + 1 : Nat) : Int) := by rw [IntKind.wrap_u64]; omega
theorem Z9b (v : Nat) (e E : Int) (k : Nat) (hv : v < big) (e0 : -300000 ≤ e) (e1 : e ≤ 300000) (h0 : -300000 ≤ E) (h1 : E ≤ 300000) (hT : (bl v : Int) + e - E ≤ 54) (hk : 100000000 ≤ k) :
  Z0h.f k (ofN v) e E = some (((rndI v e E : Nat) : Int), Z3t v e E) := by
 have len : (ofN v).length < 17592186044000 := by have := Z05 hv; omega
 have len2 := Z05 hv
 unfold Z0h.f rndI Z3t
 by_cases c : E ≤ e
 ·have n0 : wrap64 (e - E) = (((e - E).toNat : Nat) : Int) := Z3s c (by omega)
  rw [if_pos (show e ≥ E from c), if_pos c, if_pos c, n0, Z37 (ofN v) _ k (Zf v) len (by omega), Z1, Z0]
  have hb : bl v + (e - E).toNat ≤ 54 := by omega
  generalize (e - E).toNat = n at hb ⊢
  have hs : (Z2m v (n : Int)).1 = ofN (v * 2 ^ n) := by
   unfold Z2m
   rw [if_pos hv, if_neg (by omega)]
   by_cases z : v = 0
   ·rw [if_pos z, z, Nat.zero_mul, Zv]
   rw [if_neg z, Int.toNat_natCast, if_pos (by omega)]
  rw [hs, Z5x (by have := Z2X hb; rw [p54] at this; omega), Z0]
 have n0 : wrap64 (E - e) = (((E - e).toNat : Nat) : Int) := Z3s (by omega) (by omega)
 rw [if_neg (show ¬ e ≥ E from c), if_neg c, if_neg c, n0]
 have n1 : 1 ≤ (E - e).toNat := by omega
 have hb : bl v ≤ (E - e).toNat + 54 := by omega
 have nl : (E - e).toNat ≤ 600000 := by omega
 generalize (E - e).toNat = n at n1 hb nl ⊢
 have n2 : wrap64 ((n : Int) - 1) = ((n - 1 : Nat) : Int) := by unfold wrap64; omega
 rw [n2, Z7h (ofN v) _ k (Zf v) (by omega) len (by omega), Z1, Z0]
 have hs : Z5b v (n : Int) = (ofN (v / 2 ^ n), decide (v % 2 ^ n ≠ 0), 0) := by
  unfold Z5b
  rw [if_pos hv, if_neg (by omega), Int.toNat_natCast]
 have hq : v / 2 ^ n < 18014398509481984 := by have := Z4G hb; rw [p54] at this; exact this
 rw [hs]
 show (Z0M.f (ofN (v / 2 ^ n))).bind _ = _
 rw [Z5x (by omega), Z0, Zap (ofN v) _ k (Zf v) (by omega) len (by omega), Z1, if_pos hv, if_neg (by omega), Int.toNat_natCast, Z0]
 obtain ⟨a1, a2, a3⟩ := Zaq (ofN v) k (Zf v) len (by omega)
 rw [Z1] at a2 a3
 have low : ∃ t : Int, Z0l.f k (ofN v) = some (t, 0) ∧ (v ≠ 0 → (t < ((n - 1 : Nat) : Int) ↔ v % 2 ^ (n - 1) ≠ 0)) := by
  by_cases z : v = 0
  ·exact ⟨0, a2 z, fun c => absurd z c⟩
  obtain ⟨t, m, e⟩ := Z0T v z
  refine ⟨(t : Int), a3 hv t m e, fun _ => ?_⟩
  rw [e, Z3T]; omega
 obtain ⟨t, l1, l2⟩ := low
 rw [l1, Z0]
 show (if decide (v / 2 ^ (n - 1) % 2 = 1) = true then _ else _) = _
 unfold rnd
 by_cases h : v / 2 ^ (n - 1) % 2 = 1
 ·have z : v ≠ 0 := by rintro rfl; rw [Nat.zero_div] at h; exact absurd h (by decide)
  rw [if_pos (decide_eq_true h)]
  show (if t < ((n - 1 : Nat) : Int) then _ else _) = _
  have w1 : IntKind.u64.wrap (((v / 2 ^ n : Nat) : Int) + 1) = ((v / 2 ^ n + 1 : Nat) : Int) := up1 hq
  by_cases s : v % 2 ^ (n - 1) ≠ 0
  ·rw [if_pos ((l2 z).2 s), if_pos ⟨h, .inl s⟩, w1]
  rw [if_neg (fun c => s ((l2 z).1 c))]
  have ad := Zao (w := v / 2 ^ n) (by omega)
  by_cases o : v / 2 ^ n % 2 = 1
  ·rw [if_pos (by rw [ad, o]; rfl), if_pos ⟨h, .inr o⟩, w1]
  rw [if_neg (by rw [ad]; omega), if_neg (fun c => c.2.elim s o), Nat.add_zero]
 rw [if_neg (by rw [decide_eq_true_iff]; exact h), if_neg (fun c => h c.1), Nat.add_zero]
theorem Z4o (v : Nat) (e : Int) : ZD.f (ofN v) e = some (decide (v = 0)) := by
 unfold ZD.f
 congr 1
 rw [Bool.eq_iff_iff, decide_eq_true_iff, beq_iff_eq, Z8F]
def Z0j (v : Nat) (e : Int) : Int := (bl v : Int) + e
theorem Z7G (v : Nat) (e : Int) (k : Nat) (hv : v < big) (e0 : -300000 ≤ e) (e1 : e ≤ 300000) (hk : 100000000 ≤ k) : ZZ.f k (ofN v) e = some (Z0j v e) := by
 have len := Z05 hv
 unfold ZZ.f Z0j
 rw [Z3S (ofN v) k (Zf v) (by omega) (by omega), Z1, if_pos hv, Z0]
 have := ZT.1 hv
 show some (wrap64 ((bl v : Int) + e)) = _
 rw [show wrap64 ((bl v : Int) + e) = (bl v : Int) + e by unfold wrap64; omega]
def Z0f (v : Nat) (e : Int) : Int := max (Z0j v e - 53) (-1074)
def Z1D : Int := 9218868437227405312
def Z1v (v : Nat) (e : Int) : Int := (Z0f v e + 1074) * 4503599627370496 + (rndI v e (Z0f v e) : Int)
def mbI (v : Nat) (e : Int) : Int := if v = 0 then 0 else if 1024 < Z0j v e then Z1D else if Z0j v e < -1074 then 0 else min Z1D (Z1v v e)
def lsI (v : Nat) (e : Int) : Bool := if v = 0 then false else if 1024 < Z0j v e then true else if Z0j v e < -1074 then true else decide (Z1D ≤ Z1v v e) || Z3t v e (Z0f v e)
def Z1s (v : Nat) (e : Int) : Bool := if v = 0 then false else if Z0j v e = -1022 then decide (rndI v e (-1075) < 9007199254740992) else decide (Z0j v e < -1022)
theorem Z8O (n : Nat) : decide ((n : Int) < 9007199254740992) = decide (n < 9007199254740992) := by
 rw [Bool.eq_iff_iff, decide_eq_true_iff, decide_eq_true_iff]; omega
theorem Z9Y (v : Nat) (e : Int) (k : Nat) (hv : v < big) (e0 : -300000 ≤ e) (e1 : e ≤ 300000) (hk : 100000000 ≤ k) : Z0p.f k (ofN v) e = some (Z1s v e) := by
 unfold Z0p.f Z1s
 rw [Z4o, Z0]
 by_cases z : v = 0
 ·rw [if_pos (decide_eq_true z), if_pos z]
 rw [if_neg (by rw [decide_eq_true_iff]; exact z), if_neg z, Z7G v e k hv e0 e1 hk, Z0]
 by_cases c : Z0j v e = -1022
 ·rw [if_pos c, if_pos c, c, show wrap64 (-1022 - 53) = -1075 by unfold wrap64; omega, Z9b v e (-1075) k hv e0 e1 (by omega) (by omega) (by unfold Z0j at c; omega) hk, Z0]
  exact congrArg some (Z8O _)
 rw [if_neg c, if_neg c]
theorem Z6a {v : Nat} {e : Int} (z : v ≠ 0) : 4503599627370496 ≤ rndI v e (Z0j v e - 53) := by
 have b := Z1M z
 unfold rndI Z0j
 rw [show (4503599627370496 : Nat) = 2 ^ 52 by decide]
 split
 ·have hb : bl v ≤ 53 := by omega
  rw [show (e - ((bl v : Int) + e - 53)).toNat = 53 - bl v by omega]
  refine Nat.le_trans ?_ (Nat.mul_le_mul_right _ b.1)
  rw [← Nat.pow_add]; exact Nat.pow_le_pow_right (by decide) (by omega)
 rw [show ((bl v : Int) + e - 53 - e).toNat = bl v - 53 by omega]
 refine Z30 ?_
 rw [← Nat.pow_add, show 52 + (bl v - 53) = bl v - 1 by omega]
 exact b.1
theorem Z9c {E : Int} {q : Nat} (h0 : -1074 ≤ E) (h1 : E ≤ 971) (q0 : 4503599627370496 ≤ q) (q1 : q ≤ 9007199254740992) :
  IntKind.u64.wrap ((IntKind.u64.wrap ((IntKind.u64.wrap ((IntKind.u64.wrap (wrap64 (E + 1075))) * 4503599627370496)) + (q : Int))) - 4503599627370496) = (E + 1074) * 4503599627370496 + (q : Int) := by
 rw [show wrap64 (E + 1075) = E + 1075 by unfold wrap64; omega, Nb.Z18 (x := E + 1075) (by omega) (by omega), Nb.Z18 (x := (E + 1075) * 4503599627370496) (by omega) (by omega), Nb.Z18 (x := (E + 1075) * 4503599627370496 + q) (by omega) (by omega), Nb.Z18 (by omega) (by omega)]
 omega
theorem nj0 (k : Nat) (E q : Int) (l : Bool) : Zg.j0 (k + 1) E q l = if q < 4503599627370496 then some (q, l) else if E > 971 then some (Z1D, true) else some (IntKind.u64.wrap ((IntKind.u64.wrap ((IntKind.u64.wrap ((IntKind.u64.wrap (wrap64 (E + 1075))) * 4503599627370496)) + q)) - 4503599627370496), l) := rfl
theorem Z6Q (k : Nat) (E : Int) (q : Nat) (l : Bool) (h0 : -1074 ≤ E) (h1 : E ≤ 300000) (hq : q ≤ 9007199254740992) (hs : q < 4503599627370496 → E = -1074) :
  Zg.j0 (k + 1) (if (q : Int) = 9007199254740992 then E + 1 else E) (if (q : Int) = 9007199254740992 then (q : Int) / 2 else (q : Int)) l = some (min Z1D ((E + 1074) * 4503599627370496 + (q : Int)), decide (Z1D ≤ (E + 1074) * 4503599627370496 + (q : Int)) || l) := by
 rw [nj0]
 unfold Z1D
 by_cases c : (q : Int) = 9007199254740992
 ·rw [if_pos c, if_pos c, c, if_neg (by omega)]
  by_cases d : E + 1 > 971
  ·rw [if_pos d, Int.min_eq_left (by omega), decide_eq_true (by omega), Bool.true_or]
  have := Z9c (E := E + 1) (q := 4503599627370496) (by omega) (by omega) (by omega) (by omega)
  rw [if_neg d, show ((9007199254740992 : Int) / 2) = ((4503599627370496 : Nat) : Int) by decide, this, decide_eq_false (by omega), Bool.false_or, Int.min_eq_right (by omega)]
  congr 2; omega
 rw [if_neg c, if_neg c]
 by_cases s : (q : Int) < 4503599627370496
 ·rw [if_pos s, hs (by omega), decide_eq_false (by omega), Bool.false_or, Int.min_eq_right (by omega)]
  congr 2; omega
 rw [if_neg s]
 by_cases d : E > 971
 ·rw [if_pos d, Int.min_eq_left (by omega), decide_eq_true (by omega), Bool.true_or]
 rw [if_neg d, Z9c h0 (by omega) (by omega) hq, decide_eq_false (by omega), Bool.false_or, Int.min_eq_right (by omega)]
theorem Z9Z (k : Nat) (E q : Int) (l : Bool) (h0 : -1074 ≤ E) (h1 : E ≤ 300000) : (if q = 9007199254740992 then Zg.j0 k (wrap64 (E + 1)) (q / 2) l else Zg.j0 k E q l) = Zg.j0 k (if q = 9007199254740992 then E + 1 else E) (if q = 9007199254740992 then q / 2 else q) l := by
 rw [show wrap64 (E + 1) = E + 1 by unfold wrap64; omega]
 split <;> rfl
theorem Zb2 (a b : Int) : mx a b = max a b := by
 unfold mx; split <;> omega
theorem Z6R {v : Nat} {e : Int} (z : v ≠ 0) (h : rndI v e (Z0f v e) < 4503599627370496) : Z0f v e = -1074 := by
 have := Z6a (v := v) (e := e) z
 unfold Z0f at *
 by_cases c : Z0j v e - 53 ≤ -1074
 ·omega
 rw [Int.max_eq_left (by omega)] at h; omega
theorem Za0 (v : Nat) (e : Int) : rndI v e (Z0f v e) ≤ 9007199254740992 := by
 have := Z9X (v := v) (e := e) (E := Z0f v e) (m := 53) (by unfold Z0f Z0j; omega)
 exact Nat.le_trans this (by decide)
theorem Z6S (v : Nat) (e : Int) (k : Nat) (hv : v < big) (e0 : -200000 ≤ e) (e1 : e ≤ 200000) (hk : 100000000 ≤ k) : Zg.f k (ofN v) e = some (mbI v e, lsI v e) := by
 have hb := ZT.1 hv
 unfold Zg.f mbI lsI
 rw [Z7G v e k hv (by omega) (by omega) hk, Z0, Z4o, Z0]
 by_cases z : v = 0
 ·rw [if_pos (decide_eq_true z), if_pos z, if_pos z]
 rw [if_neg (by rw [decide_eq_true_iff]; exact z), if_neg z, if_neg z]
 by_cases c1 : 1024 < Z0j v e
 ·rw [if_pos c1, if_pos c1, if_pos c1]; rfl
 rw [if_neg c1, if_neg c1, if_neg c1]
 by_cases c2 : Z0j v e < -1074
 ·rw [if_pos c2, if_pos c2, if_pos c2]
 rw [if_neg c2, if_neg c2, if_neg c2, show wrap64 (Z0j v e - 53) = Z0j v e - 53 by unfold wrap64; omega, Zb2]
 show (Z0h.f k (ofN v) e (Z0f v e)).bind _ = _
 have l0 : -1074 ≤ Z0f v e := by unfold Z0f; omega
 have l1 : Z0f v e ≤ 971 := by unfold Z0f; omega
 rw [Z9b v e (Z0f v e) k hv (by omega) (by omega) (by omega) (by omega) (by unfold Z0f Z0j; omega) hk, Z0]
 have sm := Z6R (e := e) z
 have le := Za0 v e
 obtain ⟨k, rfl⟩ : ∃ j, k = j + 1 := ⟨k - 1, by omega⟩
 have := Z6Q k (Z0f v e) (rndI v e (Z0f v e)) (Z3t v e (Z0f v e)) l0 (by omega) le sm
 exact (Z9Z (k + 1) (Z0f v e) _ _ l0 (by omega)).trans this
def KK : Nat := (-1074 - lowE).toNat
theorem Z1H : (KK : Int) = -1074 - lowE := by unfold KK lowE; omega
theorem Z6T : 2 ≤ KK := by have := Z1H; unfold lowE at this; omega
theorem Z7H (v j : Nat) {n : Nat} (hn : 1 ≤ n) : rnd (v * 2 ^ j) (n + j) = rnd v n := by
 have l := Nat.mod_lt v (Zq n)
 have e := Nat.div_add_mod v (2 ^ n)
 have p := Zq j
 have e2 : v * 2 ^ j = v / 2 ^ n * 2 ^ (n + j) + v % 2 ^ n * 2 ^ j := by
  rw [Nat.pow_add, ← Nat.mul_assoc, ← Nat.add_mul, Nat.mul_comm (v / 2 ^ n), e]
 have l2 : v % 2 ^ n * 2 ^ j < 2 ^ (n + j) := by
  rw [Nat.pow_add]; exact Nat.mul_lt_mul_of_pos_right l p
 rw [e2, Z4Y (by omega) l2, Z3C v hn]
 congr 1
 have c1 : 2 ^ (n + j) < 2 * (v % 2 ^ n * 2 ^ j) ↔ 2 ^ n < 2 * (v % 2 ^ n) := by
  rw [Nat.pow_add, ← Nat.mul_assoc]; exact Nat.mul_lt_mul_right p
 have c2 : 2 * (v % 2 ^ n * 2 ^ j) = 2 ^ (n + j) ↔ 2 * (v % 2 ^ n) = 2 ^ n := by
  rw [Nat.pow_add, ← Nat.mul_assoc]; exact Nat.mul_right_cancel_iff p
 simp only [c1, c2]
theorem Z7I {v : Nat} {e E : Int} (h : lowE ≤ E) (h2 : E ≤ e) : am v e = v * 2 ^ (e - E).toNat * 2 ^ (E - lowE).toNat := by
 unfold am
 rw [Nat.mul_assoc, ← Nat.pow_add]
 congr 2; omega
theorem Z6b {v : Nat} {e E : Int} (h : lowE ≤ e) (h2 : lowE < E) : rndI v e E = rnd (am v e) (E - lowE).toNat := by
 unfold rndI
 by_cases c : E ≤ e
 ·rw [if_pos c, Z7I (Int.le_of_lt h2) c, Z9o _ (by omega)]
 rw [if_neg c, show (E - lowE).toNat = (E - e).toNat + (e - lowE).toNat by omega]
 unfold am
 rw [Z7H _ _ (by omega)]
theorem Z8P {v : Nat} {e E : Int} (h : lowE ≤ e) (h2 : lowE < E) : Z3t v e E = decide (am v e % 2 ^ (E - lowE).toNat ≠ 0) := by
 unfold Z3t
 by_cases c : E ≤ e
 ·rw [if_pos c, Z7I (Int.le_of_lt h2) c, Nat.mul_mod_left]; rfl
 rw [if_neg c, show (E - lowE).toNat = (E - e).toNat + (e - lowE).toNat by omega]
 unfold am
 rw [Nat.pow_add, Nat.mul_mod_mul_right, Bool.eq_iff_iff, decide_eq_true_iff, decide_eq_true_iff]
 have p := Zq (e - lowE).toNat
 refine not_congr ⟨fun c => by rw [c, Nat.zero_mul], fun c => ?_⟩
 rcases Nat.mul_eq_zero.1 c with c | c
 ·exact c
 omega
theorem Z4N {v : Nat} {e : Int} (z : v ≠ 0) (h : lowE ≤ e) : shA KK (am v e) = (Z0f v e - lowE).toNat := by
 have b := Z6N z h
 have k := Z1H
 unfold shA Z0f Z0j
 unfold lowE at *
 omega
theorem Z5y {v : Nat} {e : Int} (z : v ≠ 0) (h : lowE ≤ e) (c : Z0j v e < -1074) : am v e < 2 ^ (KK - 1) := by
 rw [← ZO]
 have b := Z6N z h
 have k := Z1H
 unfold Z0j at c
 unfold lowE at *
 omega
theorem Z8Q {A n : Nat} (hn : 1 ≤ n) (h : A < 2 ^ (n - 1)) : rnd A n = 0 := by
 have e : 2 ^ n = 2 ^ (n - 1) * 2 := by rw [← Nat.pow_succ]; congr 1; omega
 have := Z4Y (m := 0) (n := n) (r := A) hn (by omega)
 rw [Nat.zero_mul, Nat.zero_add, Nat.zero_add] at this
 rw [this, if_neg (by omega)]
theorem Z2h (e : Int) : am 0 e = 0 := Nat.zero_mul _
theorem Z6U {v : Nat} {e : Int} (z : v ≠ 0) (h : lowE ≤ e) : ((cdA KK (am v e) : Nat) : Int) = Z1v v e := by
 have k := Z1H
 have l : lowE < Z0f v e := by unfold Z0f; unfold lowE; omega
 unfold cdA Z1v
 rw [Z4N z h, Z6b h l]
 generalize rnd (am v e) (Z0f v e - lowE).toNat = q
 have : (((Z0f v e - lowE).toNat - KK : Nat) : Int) = Z0f v e + 1074 := by
  have : -1074 ≤ Z0f v e := by unfold Z0f; omega
  unfold lowE at *; omega
 omega
theorem Z5z {v : Nat} {e : Int} (z : v ≠ 0) (h : lowE ≤ e) (c : 1024 < Z0j v e) : Z1D ≤ Z1v v e := by
 have := Z6a (e := e) z
 unfold Z1v Z1D
 rw [show Z0f v e = Z0j v e - 53 by unfold Z0f; omega]
 omega
theorem Z7J {v : Nat} {e : Int} (z : v ≠ 0) (h : lowE ≤ e) (c : Z0j v e < -1074) : Z1v v e = 0 := by
 rw [← Z6U z h]
 have s := Z4N z h
 have k := Z1H
 have : Z0f v e = -1074 := by unfold Z0f; omega
 rw [this, ← k, Int.toNat_natCast] at s
 unfold cdA
 rw [s, Z8Q (by have := Z6T; omega) (Z5y z h c), Nat.sub_self]
 rfl
theorem Z7K : ((INn : Nat) : Int) = Z1D := rfl
theorem Z4O (v : Nat) {e : Int} (h : lowE ≤ e) : mbI v e = ((mbA KK (am v e) : Nat) : Int) := by
 unfold mbI mbA
 by_cases z : v = 0
 ·subst z; rw [if_pos rfl, Z2h, Z4X]; rfl
 rw [if_neg z]
 have cd := Z6U z h
 have i := Z7K
 have c0 : (0 : Int) ≤ Z1D := by decide
 by_cases c1 : 1024 < Z0j v e
 ·have := Z5z z h c1
  rw [if_pos c1]; omega
 rw [if_neg c1]
 by_cases c2 : Z0j v e < -1074
 ·have := Z7J z h c2
  rw [if_pos c2]; omega
 rw [if_neg c2]; omega
theorem Z9d (v : Nat) {e : Int} (h : lowE ≤ e) : lsI v e = true ↔ lsA KK (am v e) := by
 unfold lsI lsA
 by_cases z : v = 0
 ·subst z
  rw [if_pos rfl, Z2h, Z4X, Nat.zero_mod]
  refine ⟨fun c => (by cases c), fun c => ?_⟩
  rcases c with c | c
  ·exact absurd c (by decide)
  exact absurd rfl c
 rw [if_neg z]
 have cd := Z6U z h
 have i := Z7K
 by_cases c1 : 1024 < Z0j v e
 ·have := Z5z z h c1
  rw [if_pos c1]; exact ⟨fun _ => .inl (by omega), fun _ => rfl⟩
 rw [if_neg c1]
 by_cases c2 : Z0j v e < -1074
 ·rw [if_pos c2]
  refine ⟨fun _ => .inr ?_, fun _ => rfl⟩
  have s := Z4N z h
  have k := Z1H
  rw [show Z0f v e = -1074 by unfold Z0f; omega, ← k, Int.toNat_natCast] at s
  have a := Z5y z h c2
  have : 2 ^ (KK - 1) ≤ 2 ^ KK := Nat.pow_le_pow_right (by decide) (Nat.sub_le _ _)
  rw [s, Nat.mod_eq_of_lt (Nat.lt_of_lt_of_le a this)]
  exact Z3b z e
 rw [if_neg c2, Bool.or_eq_true, decide_eq_true_iff, Z8P h (by unfold Z0f; unfold lowE; omega), decide_eq_true_iff, ← Z4N z h]
 exact or_congr (by omega) Iff.rfl
theorem Z9e (v : Nat) {e : Int} (h : lowE ≤ e) : Z1s v e = true ↔ v ≠ 0 ∧ tyA KK (am v e) := by
 unfold Z1s tyA
 by_cases z : v = 0
 ·subst z
  rw [if_pos rfl]
  exact ⟨fun c => (by cases c), fun c => absurd rfl c.1⟩
 rw [if_neg z]
 have k := Z1H
 have k2 := Z6T
 have kk : (-1075 - lowE).toNat = KK - 1 := by unfold lowE at *; omega
 have b := Z6N z h
 by_cases c : Z0j v e = -1022
 ·rw [if_pos c, decide_eq_true_iff, Z6b h (by decide), kk]
  exact ⟨fun d => ⟨z, d⟩, fun d => d.2⟩
 rw [if_neg c, decide_eq_true_iff]
 refine ⟨fun d => ⟨z, ?_⟩, fun d => ?_⟩
 ·refine Nat.lt_of_le_of_lt (Z4V (m := 4503599627370496) (by omega) ?_) (by decide)
  rw [← P52, ← Nat.pow_add]
  refine Nat.le_of_lt (ZO.1 ?_)
  unfold Z0j at d; unfold lowE at *; omega
 refine Classical.byContradiction fun f => ?_
 have g : 9007199254740992 ≤ rnd (am v e) (KK - 1) := by
  refine Z30 ?_
  rw [← P53, ← Nat.pow_add]
  refine Nat.not_lt.1 fun x => ?_
  rw [← ZO] at x
  unfold Z0j at *; unfold lowE at *; omega
 omega
end Go.Proofs.YtjnfipkbgmdpaaaGreatDoor.Nf
