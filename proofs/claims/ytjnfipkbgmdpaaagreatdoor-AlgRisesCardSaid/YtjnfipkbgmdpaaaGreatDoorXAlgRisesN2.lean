/- Plain part. -/
import Derived.Test.YtjnfipkbgmdpaaaGreatDoorXAlgRisesN1
namespace Go.Proofs.YtjnfipkbgmdpaaaGreatDoor.Nf
open RowKit YtjnfipkbgmdpaaaGreatDoor.PAll YtjnfipkbgmdpaaaGreatDoorW.PrintWords YtjnfipkbgmdpaaaGreatDoorW.PrintLast YtjnfipkbgmdpaaaGreatDoorW.PrintMore YtjnfipkbgmdpaaaGreatDoor.Nm
set_option linter.unusedVariables false
set_option linter.unusedSimpArgs false
theorem Z2H (v : Nat) (h : v ≠ 0) : ∃ t m, v = 2 ^ t * (2 * m + 1) := by
 induction v using Nat.strongRecOn with
 | _ v ih =>
  by_cases g : v % 2 = 1
  ·exact ⟨0, v / 2, by rw [Nat.pow_zero]; omega⟩
  obtain ⟨t, m, e⟩ := ih (v / 2) Zo Zo
  exact ⟨t + 1, m, by rw [zkk, zkX, ← e]; omega⟩
theorem Z4j (t m n : Nat) (h : n ≤ t) : (2 ^ t * (2 * m + 1)) / 2 ^ n % 2 = if n = t then 1 else 0 := by
 have hp : 0 < 2 ^ n := zkh Zd
 obtain ⟨d, rfl⟩ : ∃ d, t = n + d := ⟨t - n, by omega⟩
 rw [zkb, zkc, Nat.mul_div_cancel_left _ hp]
 by_cases g : d = 0
 ·subst g; rw [if_pos Zo, Nat.pow_zero]; omega
 rw [if_neg Zo]
 obtain ⟨e, rfl⟩ : ∃ e, d = e + 1 := ⟨d - 1, by omega⟩
 rw [zkk, zkX]; omega
theorem Z5i {t m s n : Nat} (h : 2 ^ t * (2 * m + 1) = 2 ^ s * (2 * n + 1)) : t = s := by
 rcases Nat.lt_trichotomy t s with g | g | g
 ·have a := Z4j t m t (zk6 _)
  have b := Z4j s n t (zkG g)
  rw [h, b, if_neg (Zke g), if_pos rfl] at a; omega
 ·exact g
 have a := Z4j s n s (zk6 _)
 have b := Z4j t m s (zkG g)
 rw [← h, b, if_neg (Zke g), if_pos rfl] at a; omega
theorem Zeo (t a : Nat) (h : 2 ^ t * (2 * a + 1) < 2 ^ 64) : 2 ^ t * (2 * a + 1) &&& (2 ^ 64 - 2 ^ t * (2 * a + 1)) = 2 ^ t := by
 have hp : 0 < 2 ^ t := zkh Zd
 obtain ⟨c, hc⟩ : ∃ c, c + 1 = 2 ^ t * (2 * a + 1) := ⟨2 ^ t * (2 * a + 1) - 1, by have : 0 < 2 ^ t * (2 * a + 1) := zkz hp Zo; omega⟩
 have hc2 : c = 2 ^ t * (2 * a) + (2 ^ t - 1) := by rw [zkp] at hc; omega
 have ht : t < 64 := (Nat.pow_lt_pow_iff_right (a := 2) Zd).1 (zkq (zku _ Zo) h)
 apply Nat.eq_of_testBit_eq
 intro i
 rw [Nat.testBit_and, Nat.testBit_two_pow, ← hc, Nat.testBit_two_pow_sub_succ Zo, hc, hc2, Nat.testBit_two_pow_mul_add _ Zo]
 have e0 : 2 ^ t * (2 * a + 1) = 2 ^ t * (2 * a + 1) + 0 := rfl
 rw [e0, Nat.testBit_two_pow_mul_add _ hp]
 by_cases h1 : i < t
 ·have : t ≠ i := by omega
  simp [h1, this]
 rw [if_neg h1, if_neg h1]
 by_cases h2 : t = i
 ·subst h2
  rw [Nat.sub_self]; simp [ht]
 obtain ⟨j, hj⟩ : ∃ j, i - t = j + 1 := ⟨i - t - 1, by omega⟩
 rw [hj, Nat.testBit_succ, Nat.testBit_succ]
 have e1 : (2 * a + 1) / 2 = a := by omega
 have e2 : 2 * a / 2 = a := by omega
 rw [e1, e2]
 cases a.testBit j <;> simp [h2]
theorem Zd5 : ∀ t : Fin 64, tzTab.getD (2 ^ t.val * 285870213051353865 % 18446744073709551616 / 288230376151711744) 0 = (t.val : Int) ∧ 2 ^ t.val * 285870213051353865 % 18446744073709551616 / 288230376151711744 < 64 := by decide +kernel
theorem Z8J {w t m : Nat} (hw : w = 2 ^ t * (2 * m + 1)) (h : w < 18446744073709551616) : Z0T.f w = some (t : Int) ∧ t < 64 := by
 have hp : 0 < 2 ^ t := zkh Zd
 have h0 : 0 < w := by rw [hw]; exact zkz hp Zo
 have h64 : 2 ^ t * (2 * m + 1) < 2 ^ 64 := by rw [← hw]; exact h
 have ht : t < 64 := (Nat.pow_lt_pow_iff_right (a := 2) Zd).1 (zkq (zku _ Zo) h64)
 have ha := Zeo t m h64
 rw [← hw] at ha
 obtain ⟨b1, b2⟩ := Zd5 ⟨t, ht⟩
 have e1 : IntKind.u64.wrap (-(w : Int)) = ((18446744073709551616 - w : Nat) : Int) := by rw [IntKind.wrap_u64]; omega
 have e2 : bits BinOp.and IntKind.u64 (w : Int) ((18446744073709551616 - w : Nat) : Int) = ((2 ^ t : Nat) : Int) := by
  rw [u64_and_nat w _ h Zo]
  exact congrArg Nat.cast ha
 have e3 : tzI (w : Int) = ((2 ^ t * 285870213051353865 % 18446744073709551616 / 288230376151711744 : Nat) : Int) := by
  unfold tzI
  rw [e1, e2]
  generalize 2 ^ t = p
  rw [IntKind.wrap_u64]; omega
 refine ⟨?_, ht⟩
 unfold Z0T.f
 dsimp only at b1 b2
 rw [if_neg Zo, e3, if_pos (zk1 _), if_pos Zo, zk0, b1]
theorem Z9y {a : List Int} (ha : Ws a) (j s : Nat) (hs : s < 64) : val a / 2 ^ (64 * j + s) % 2 = (a.getD j 0).toNat / 2 ^ s % 2 := by
 have e : 2 ^ (64 * j + s) = 18446744073709551616 ^ j * 2 ^ s := by rw [zkb, zkK]
 by_cases h : j < a.length
 ·have ht := Z2l ha j
  obtain ⟨h1, _⟩ := Z9n (S := 2 ^ s) ht (Z1O a j (zkG h))
  rw [e, h1, Z2S a j h]
  have hp : 0 < 2 ^ s := zkh Zd
  have e2 : (18446744073709551616 : Nat) = 2 ^ s * (2 * 2 ^ (63 - s)) := by
   have := Z1e (show s ≤ 64 by omega)
   have e3 : 64 - s = (63 - s) + 1 := by omega
   rw [e3, zkk, zkl _ 2] at this
   exact this.symm
  generalize (a.getD j 0).toNat = w
  generalize val (a.drop (j + 1)) = r
  have e4 : (w + 18446744073709551616 * r) / 2 ^ s = w / 2 ^ s + 2 * 2 ^ (63 - s) * r := by
   have : w + 18446744073709551616 * r = w + 2 ^ s * (2 * 2 ^ (63 - s) * r) := by rw [← zkc, ← e2]
   rw [this, Nat.add_mul_div_left _ _ hp]
  rw [e4, zkc]
  omega
 rw [Z2C a j Zo, e]
 have : val a < 18446744073709551616 ^ j := zkn (Z1M ha) (zkj Zd Zo)
 rw [← Nat.div_div_eq_div_mul, zkP this]; simp
theorem Zfv {w : Nat} (hw : w < 18446744073709551616) : Go.bits .and .u64 (w : Int) 1 = ((w % 2 : Nat) : Int) := by
 have h := u64_and_nat w 1 hw Zd
 have e : w &&& 1 = w % 2 := zkV w 1
 rw [e] at h; exact h
theorem Z9z (a : List Int) (ha : Ws a) (n : Nat) (hn : n < 9223372036854775808) : Z2o.f a n = some (decide (val a / 2 ^ n % 2 = 1)) := by
 unfold Z2o.f
 have e1 : wrap64 (Int.tdiv (n : Int) 64) = ((n / 64 : Nat) : Int) := by
  rw [zkr Zo, ZL Zo Zo]; omega
 have e2 : IntKind.u64.wrap (Int.tmod (n : Int) 64) = ((n % 64 : Nat) : Int) := by
  rw [zkt Zo, IntKind.wrap_u64]; omega
 have en : val a / 2 ^ n % 2 = (a.getD (n / 64) 0).toNat / 2 ^ (n % 64) % 2 := by
  have := Z9y ha (n / 64) (n % 64) Zo
  rw [zkF] at this; exact this
 obtain ⟨p0, p1⟩ := Z01 ha (n / 64)
 have ew := Z1D p0
 rw [en]
 generalize (a.getD (n / 64) 0).toNat = w at *
 have hs : n % 64 ≤ 64 := by omega
 have h2 : Int.tmod (((w / 2 ^ (n % 64) : Nat)) : Int) 2 = ((w / 2 ^ (n % 64) % 2 : Nat) : Int) := ZdA _ 2
 rw [if_pos Zo, e1, Z3z, Z4, e2, if_pos (zk1 _), ew, Z3e _ _ hs, h2]
 generalize w / 2 ^ (n % 64) % 2 = z
 congr 1
 rw [zko]; simp; omega
theorem Zfw (a : List Int) (i : Int) (k : Nat) (ha : Ws a) (hi : i < 9223372036854775808) (na : a.length < 17592186044000) (hk : a.length < k) :
  Z3x.f k a i = some (if val a < big then (if i < 0 then (false, 2) else (decide (val a / 2 ^ i.toNat % 2 = 1), 0)) else (false, 3)) := by
 unfold Z3x.f
 rw [Z42 a k ha Zo Zo, Z4]
 by_cases h : val a < big
 ·simp only [if_pos h]
  rw [if_pos trivial]
  by_cases g : i < 0
  ·rw [if_pos g, if_pos g]
  obtain ⟨n, rfl⟩ : ∃ n : Nat, i = (n : Int) := ⟨i.toNat, by omega⟩
  have hl := Z0X h
  have e1 : wrap64 (Int.tdiv (n : Int) 64) = ((n / 64 : Nat) : Int) := by
   rw [zkr Zo, ZL Zo Zo]; omega
  have e2 : Int.tmod (n : Int) 64 = ((n % 64 : Nat) : Int) := by
   rw [zkt Zo]; omega
  have hs : n % 64 ≤ 64 := by omega
  have en : val (ofN (val a)) / 2 ^ n % 2 = ((ofN (val a)).getD (n / 64) 0).toNat / 2 ^ (n % 64) % 2 := by
   have := Z9y (ZE (val a)) (n / 64) (n % 64) Zo
   rw [zkF] at this; exact this
  rw [Ze] at en
  rw [if_neg g, if_neg g, zk0, e1, e2, en]
  generalize hq : n / 64 = q at *
  by_cases c : q < (ofN (val a)).length
  ·obtain ⟨p0, p1⟩ := Z01 (ZE (val a)) q
   have ew := Z1D p0
   have cc : ((q : Nat) : Int) < ((ofN (val a)).length : Int) := by omega
   rw [if_pos cc, if_pos (zk1 _), if_pos (zk1 _), Z06]
   generalize ((ofN (val a)).getD q 0).toNat = w at *
   have w1 : w < 18446744073709551616 := zki.1 (ew ▸ p1)
   rw [ew, Z3e _ _ hs, Zfv (zkq (zkI _ _) w1)]
   generalize w / 2 ^ (n % 64) % 2 = z
   congr 2
   rw [zko]; simp; omega
  rw [if_neg Zo, Z2C _ _ Zo]
  simp
 simp only [if_neg h]
 rw [if_neg Zd]
theorem Zep (a : List Int) (k : Nat) (ha : Ws a) (na : a.length < 17592186044000) (hk : a.length < k) : Z3r.f k a = some (if val a < big then (ofN (val a), 0) else ([], 3)) := by
 unfold Z3r.f
 rw [Z42 a k ha Zo Zo, Z4]
 by_cases h : val a < big
 ·have hl := Z0X h
  have ho := Z3p (ofN (val a)) Zo
  simp only [if_pos h]
  rw [if_pos trivial, ho, Z4]
 simp only [if_neg h]
 rw [if_neg Zd]
theorem Z8K (w k : Nat) (hw : w < 18446744073709551616) (hk : 1 < k) : Z2W.f k w = some (ofN w) := by
 unfold Z2W.f
 have : val [(w : Int)] = w := by simp [val]
 have l1 : (ofN w).length ≤ 1 := (Z0N w 1).2 hw
 have ho := Z3p (ofN w) Zo
 rw [Z2D 1 _ k rfl (Z2c.2 ⟨by omega, Z2d⟩) Zd hk, Z4, this, ho, Z4]
theorem Z6I (v k : Nat) (hl : (ofN v).length ≤ 1024) (hk : 1 < k) : Z1R.f k (ofN v) = some ((bl v : Nat) : Int) := by
 unfold Z1R.f
 by_cases h : v = 0
 ·have := Z1f.2 h
  rw [if_pos Zo, h, Z2q]; rfl
 obtain ⟨m, w, h1, h2, h3, h4, h5⟩ := Z6F h
 have hb := Z4i h4
 have e1 : wrap64 (((ofN v).length : Int) - 1) = (m : Int) := by rw [ZL Zo Zo]; omega
 have c0 : ¬ ((ofN v).length : Int) = 0 := by clear e1; omega
 have c1 : (m : Int) < ((ofN v).length : Int) := by clear e1; omega
 have e2 : wrap64 (64 * (m : Int)) = ((64 * m : Nat) : Int) := by clear e1; rw [ZL Zo Zo]; omega
 have e3 : wrap64 (((64 * m : Nat) : Int) + ((bl w : Nat) : Int)) = ((64 * m + bl w : Nat) : Int) := by clear e1 e2; rw [ZL Zo Zo]; omega
 rw [if_neg c0, e1, if_pos (zk1 _), if_pos c1, Z06, h5, Z8D k w h4 hk, Z4, e2, e3, h2]
theorem Z6J (a : List Int) (k : Nat) (ha : Ws a) (na : a.length < 17592186044000) (hk : a.length + 1 < k) : Z2e.f k a = some (if val a < big then (((bl (val a) : Nat) : Int), 0) else (0, 3)) := by
 unfold Z2e.f
 rw [Z42 a k ha Zo Zo, Z4]
 by_cases h : val a < big
 ·simp only [if_pos h]
  rw [Z6I _ k (Z0X h) Zo, Z4]
 simp only [if_neg h]
 have := Z6I 0 k (by rw [Z0e]; decide) Zo
 rw [Z0e, Z2q] at this
 rw [this, Z4]; rfl
theorem Z6n (v : Nat) (e : Int) (hl : (ofN v).length ≤ 1024) (s : Nat) : ∀ (i k : Nat), (ofN v).length - i = s → i ≤ (ofN v).length → s < k → val ((ofN v).take i) = 0 →
  (v = 0 → Z1u.l0 k e (ofN v) (ofN v).length i = some (0, e)) ∧ (∀ t m : Nat, v = 2 ^ t * (2 * m + 1) → Z1u.l0 k e (ofN v) (ofN v).length i = some ((t : Int), e)) := by
 induction s with
 | zero =>
  intro i k hs hi hk hz
  obtain ⟨k, rfl⟩ : ∃ z, k = z + 1 := ⟨k - 1, by omega⟩
  obtain rfl : i = (ofN v).length := by omega
  rw [Zr _ _ (zk6 _), Ze] at hz
  have g : Z1u.l0 (k + 1) e (ofN v) (ofN v).length ((ofN v).length : Nat) = some (0, e) := by
   simp only [Z1u.l0]; rw [if_neg Zo]
  refine ⟨fun _ => g, fun t m ht => ?_⟩
  have : 0 < 2 ^ t * (2 * m + 1) := zkz (zkh Zd) Zo
  omega
 | succ s ih =>
  intro i k hs hi hk hz
  obtain ⟨k, rfl⟩ : ∃ z, k = z + 1 := ⟨k - 1, by omega⟩
  have i1 : (ofN v).length - (i + 1) = s := by omega
  have i2 : i + 1 ≤ (ofN v).length := by omega
  have i3 : s < k := by omega
  have g1 : (i : Int) < ((ofN v).length : Int) := by omega
  have b3 : i < 4611686018427387904 := by omega
  have i5 : i < (ofN v).length := by omega
  obtain ⟨p0, p1⟩ := Z01 (ZE v) i
  have ew := Z1D p0
  have ts := Z05 (ofN v) i i5
  have td := Z1O (ofN v) i (zkG i5)
  have vd := Z2S (ofN v) i i5
  rw [hz] at ts td
  rw [Ze, vd] at td
  simp only [Z1u.l0]
  rw [if_pos g1, if_pos (zk1 _), if_pos g1, Z06]
  generalize hwn : ((ofN v).getD i 0).toNat = w at *
  by_cases h : w = 0
  ·have := ih (i + 1) k i1 i2 i3 (by rw [ts, h]; simp)
   rw [if_pos (by rw [ew, h]; rfl), Z0d b3]
   exact this
  have w1 : w < 18446744073709551616 := zki.1 (ew ▸ p1)
  obtain ⟨s', c, hc⟩ := Z2H w h
  obtain ⟨tz, ts64⟩ := Z8J hc w1
  have e2 : wrap64 (64 * (i : Int)) = ((64 * i : Nat) : Int) := by rw [ZL Zo Zo]; omega
  have e3 : wrap64 (((64 * i : Nat) : Int) + (s' : Int)) = ((64 * i + s' : Nat) : Int) := by clear e2; rw [ZL Zo Zo]; omega
  have hw0 : ¬ (w : Int) = 0 := by clear e2 e3; omega
  rw [ew, if_neg hw0, tz, Z4, e2, e3]
  clear e2 e3
  have hv : v = 2 ^ (64 * i + s') * (2 * (c + 2 ^ (63 - s') * val ((ofN v).drop (i + 1))) + 1) := by
   have eB : (18446744073709551616 : Nat) = 2 ^ s' * (2 * 2 ^ (63 - s')) := by
    have := Z1e (show s' ≤ 64 by omega)
    have e3 : 64 - s' = (63 - s') + 1 := by omega
    rw [e3, zkk, zkl _ 2] at this
    exact this.symm
   have eP : (18446744073709551616 : Nat) ^ i = 2 ^ (64 * i) := by rw [zkK]
   generalize val ((ofN v).drop (i + 1)) = R at *
   have e5 : w + 18446744073709551616 * R = 2 ^ s' * (2 * (c + 2 ^ (63 - s') * R) + 1) := by
    rw [eB, hc, zkc, ← zkp, zkp 2 c, zkc 2]
    congr 1; omega
   rw [zkU, e5, eP, ← zkc, ← zkb] at td
   exact td
  refine ⟨fun z => ?_, fun t m ht => ?_⟩
  ·have : 0 < 2 ^ (64 * i + s') * (2 * (c + 2 ^ (63 - s') * val ((ofN v).drop (i + 1))) + 1) := zkz (zkh Zd) Zo
   omega
  have := Z5i (ht.symm.trans hv)
  rw [this]
theorem Zeq : 0 < big := by
 have h : ∀ m, 0 < 18446744073709551616 ^ m := pow_pos
 unfold big
 exact h 1024
theorem Zfx (a : List Int) (k : Nat) (ha : Ws a) (na : a.length < 17592186044000) (hk : a.length + 2000 < k) :
  (¬ val a < big → Z1u.f k a = some (0, 3)) ∧ (val a = 0 → Z1u.f k a = some (0, 0)) ∧ (val a < big → ∀ t m : Nat, val a = 2 ^ t * (2 * m + 1) → Z1u.f k a = some ((t : Int), 0)) := by
 unfold Z1u.f
 rw [Z42 a k ha Zo Zo, Z4]
 refine ⟨fun h => ?_, fun h => ?_, fun h t m ht => ?_⟩
 ·simp only [if_neg h]
  have := (Z6n 0 3 (by rw [Z0e]; decide) _ 0 k rfl (zkD _) (by rw [Z0e]; simp; omega) (by simp [val])).1 rfl
  rw [Z0e] at this
  exact this
 ·have hb : val a < big := by rw [h]; exact Zeq
  simp only [if_pos hb]
  have := (Z6n 0 0 (by rw [Z0e]; decide) _ 0 k rfl (zkD _) (by rw [Z0e]; simp; omega) (by simp [val])).1 rfl
  rw [h]
  exact this
 simp only [if_pos h]
 have hl := Z0X h
 exact (Z6n (val a) 0 hl _ 0 k rfl (zkD _) Zo (by simp [val])).2 t m ht
theorem Zbz (a : List Int) (ha : Ws a) {t m : Nat} (hv : val a = 2 ^ t * (2 * m + 1)) (ht : t < 4611686018427387904) (s : Nat) : ∀ (n k : Nat), t - n = s → n ≤ t → s < k → Z0R.l0 k a n = some (t : Int) := by
 induction s with
 | zero =>
  intro n k hs hn hk
  obtain ⟨k, rfl⟩ : ∃ z, k = z + 1 := ⟨k - 1, by omega⟩
  obtain rfl : n = t := by omega
  have := Z4j n m n (zk6 _)
  simp only [Z0R.l0]
  rw [Z9z a ha n Zo, Z4, hv, this, if_pos rfl]; rfl
 | succ s ih =>
  intro n k hs hn hk
  obtain ⟨k, rfl⟩ : ∃ z, k = z + 1 := ⟨k - 1, by omega⟩
  have := Z4j t m n hn
  rw [if_neg Zo] at this
  simp only [Z0R.l0]
  rw [Z9z a ha n Zo, Z4, hv, this, if_neg Zd, Z0d Zo]
  exact ih (n + 1) k Zo Zo Zo
theorem Zer (a : List Int) (k : Nat) (ha : Ws a) {t m : Nat} (hv : val a = 2 ^ t * (2 * m + 1)) (ht : t < 4611686018427387904) (na : a.length < 17592186044000) (hk : a.length + t + 100 < k) : Z0R.f k a = some (t : Int) := by
 unfold Z0R.f
 have hp : 0 < 2 ^ t * (2 * m + 1) := zkz (zkh Zd) Zo
 have hb := Z3W (n := val a) Zo
 rw [Z9u a k ha na Zo, Z4, if_neg Zo]
 exact Zbz a ha hv ht _ 0 k rfl (zkD _) Zo
theorem Z8L {v t m : Nat} (h : v = 2 ^ t * (2 * m + 1)) : t < bl v := by
 have := Z2J v
 refine (Nat.pow_lt_pow_iff_right (a := 2) Zd).1 (zkq ?_ this)
 rw [h]; exact zku _ Zo
theorem Z9A : ofN 1 = [1] := by
 rw [Z3K Zd]
 have : (1 : Nat) / 18446744073709551616 = 0 := by decide
 rw [this, Z0e]; rfl
theorem Z9B {x y m n K : Nat} (hx : (ofN x).length ≤ m) (hy : (ofN y).length ≤ n) (hK : m + n = K) : (ofN (x * y)).length ≤ K := by
 subst hK
 rw [Z0N] at hx hy ⊢
 rw [zkb]; exact zkY hx (zkG hy) (pow_pos n)
theorem Z7J (x : Int) : 0 ≤ x * x := by
 rcases Int.le_total 0 x with h | h
 ·exact Int.mul_nonneg h h
 have := Int.mul_nonneg (Int.neg_nonneg.2 h) (Int.neg_nonneg.2 h); rwa [Int.neg_mul_neg] at this
theorem Zgh (x d r : Int) (h : 2 * r = x + d) : d * x ≤ r * r := by
 have q := Z7J (x - d)
 have e : (x - d) * (x - d) = 4 * (r * r) - 4 * (d * x) := by grind
 omega
theorem Zgi (x d r : Int) (h0 : 0 ≤ x) (h1 : 0 ≤ r) (h : 3 * r = 2 * x + d) : d * (x * x) ≤ r * r * r := by
 have q := Int.mul_nonneg (Z7J (x - r)) (show 0 ≤ r + 2 * x by omega)
 have e : (x - r) * (x - r) * (r + 2 * x) = r * r * r - d * (x * x) := by grind
 omega
theorem Zes {a x r : Nat} (hx : 0 < x) (hr : r * r ≤ a) : 2 * r ≤ a / x + x := by
 by_cases h : 2 * r ≤ x
 ·exact zk2 h (Nat.le_add_left _ _)
 obtain ⟨d, hd⟩ : ∃ d, 2 * r = x + d := ⟨2 * r - x, by omega⟩
 have := Zgh x d r Zo
 have h2 : d * x ≤ a := by
  have h3 : ((d * x : Nat) : Int) ≤ ((r * r : Nat) : Int) := by simpa using this
  omega
 have := (zkN hx).2 h2
 omega
theorem Zet {a x r : Nat} (hx : 0 < x) (hr : r * r * r ≤ a) : 3 * r ≤ a / (x * x) + 2 * x := by
 by_cases h : 3 * r ≤ 2 * x
 ·exact zk2 h (Nat.le_add_left _ _)
 obtain ⟨d, hd⟩ : ∃ d, 3 * r = 2 * x + d := ⟨3 * r - 2 * x, by omega⟩
 have := Zgi x d r Zo Zo Zo
 have h2 : d * (x * x) ≤ a := by
  have h3 : ((d * (x * x) : Nat) : Int) ≤ ((r * r * r : Nat) : Int) := by simpa using this
  omega
 have := (zkN (zkz hx hx)).2 h2
 omega
theorem Z8M {x y : Nat} (k : Nat) (hx : (ofN x).length ≤ 1024) (hy : (ofN y).length ≤ 1024) (hk : 2000000 < k) : ZJ.f k (ofN x) (ofN y) = some (ofN (x * y)) := by
 have h1 : (ofN x).length * ((ofN y).length + 2) ≤ 1024 * 1026 := zkR hx Zo
 have h := Zej (ofN x) (ofN y) k (ZE x) (ZE y) Zo Zo
 rw [Ze, Ze] at h; exact h
theorem Zax {x : Nat} (k : Nat) (hx : (ofN x).length ≤ 1024) (hk : 2000000 < k) : ZJ.f k [1] (ofN x) = some (ofN x) := by
 have h := Z8M (x := 1) (y := x) k (by rw [Z9A]; decide) hx hk
 rw [Z9A, Zk6] at h; exact h
theorem Zd6 {x y : Nat} (k : Nat) (hx : (ofN x).length ≤ 2100) (hy : (ofN y).length ≤ 2100) (hk : 2000000 < k) : ZH.f k (ofN x) (ofN y) = some (ofN (x + y)) := by
 have h := Zbn (ofN x) (ofN y) (ZE x) (ZE y) Zo Zo k Zo
 rw [Ze, Ze] at h; exact h
theorem ZbA {x : Nat} (k d : Nat) (hx : (ofN x).length ≤ 2100) (h0 : 0 < d) (hd : d < 10) (hk : 2000000 < k) : Z00.f k (ofN x) (d : Int) = some (ofN (x / d), ((x % d : Nat) : Int)) := by
 have h := Z8F (ofN x) (ZE x) d k h0 Zo Zo Zo
 rw [Ze] at h; exact h
theorem Z5S {a b : Nat} : Z2y a b ≥ 0 ↔ b ≤ a := by
 unfold Z2y
 by_cases h : a < b
 ·rw [if_pos h]; omega
 rw [if_neg h]
 by_cases g : a = b
 ·rw [if_pos g]; omega
 rw [if_neg g]; omega
theorem Z7l {x y m : Nat} (hx : (ofN x).length ≤ m) (hy : (ofN y).length ≤ m) : (ofN (x + y)).length ≤ m + 1 := by
 rw [Z0N] at hx hy ⊢
 rw [zkk]; omega
theorem Z9C (k : Nat) (x0 : List Int) (x1 : Int) (x5 : List Int) : Zp.l0 (k + 1) x0 x1 x5 = Zp.l1 k x0 x1 x5 (([1] : List Int)) (wrap64 (x1 - 1)) 0 := by simp only [Zp.l0]
theorem Z4Z (k : Nat) (x0 : List Int) (x1 : Int) (x5 x6 : List Int) (x24 x25 : Int) : Zp.l1 (k + 1) x0 x1 x5 x6 x24 x25 = if x25 < x24 then ((ZJ.f k x6 x5).bind fun t484 => (Zp.l1 k x0 x1 x5 t484 x24 (wrap64 (x25 + 1)))) else ((ZK.f k x0 x6).bind fun bt487 => (Zp.l2 k x0 x1 x5 bt487.1 (wrap64 (x1 - 1)) 0)) := by simp only [Zp.l1]
theorem Z50 (k : Nat) (x0 : List Int) (x1 : Int) (x5 x9 : List Int) (x39 x40 : Int) : Zp.l2 (k + 1) x0 x1 x5 x9 x39 x40 = if x40 < x39 then ((ZH.f k x9 x5).bind fun t493 => (Zp.l2 k x0 x1 x5 t493 x39 (wrap64 (x40 + 1)))) else ((Z00.f k x9 (IntKind.u64.wrap (x1))).bind fun bt496 => ((Z08.f k bt496.1 x5).bind fun t500 => (if t500 ≥ 0 then (some x5) else (Zp.l0 k x0 x1 bt496.1)))) := by simp only [Zp.l2]
theorem Z3f (k : Nat) (x7 x9 x10 : List Int) (x23 x24 : Int) : Z14.l0 (k + 1) x7 x9 x10 x23 x24 = if x24 < x23 then ((ZJ.f k x10 x9).bind fun t521 => (Z14.l0 k x7 x9 t521 x23 (wrap64 (x24 + 1)))) else ((ZZ.f x9).bind fun t524 => ((Z0k.f k x7 x10).bind fun t527 => ((ZZ.f t527).bind fun t530 => (some (t524, t530, 0))))) := by simp only [Z14.l0]
theorem Zay (a x k : Nat) (ha : (ofN a).length ≤ 1024) (hx0 : 0 < x) (hx : (ofN x).length ≤ 1024) (hk : 3000000 < k) :
  Zp.l0 (k + 5) (ofN a) 2 (ofN x) = if x ≤ (a / x + x) / 2 then some (ofN x) else Zp.l0 k (ofN a) 2 (ofN ((a / x + x) / 2)) := by
 have w1 : wrap64 ((2 : Int) - 1) = 1 := by rw [ZL Zd Zd]; rfl
 have w2 : wrap64 ((0 : Int) + 1) = 1 := by rw [ZL Zd Zd]; rfl
 have w3 : IntKind.u64.wrap (2 : Int) = ((2 : Nat) : Int) := by decide
 have lq : (ofN (a / x)).length ≤ 1024 := zk2 (Z0E (zkI _ _)) ha
 have ls : (ofN (a / x + x)).length ≤ 1025 := Z7l lq hx
 have ln : (ofN ((a / x + x) / 2)).length ≤ 1025 := zk2 (Z0E (zkI _ _)) ls
 rw [Z9C]
 rw [Z4Z]
 rw [w1, w2, if_pos Zd, Zax (k + 3) hx Zo, Z4]
 rw [Z4Z]
 rw [if_neg Zd, Z8I a x (k + 2) Zo ha hx Zo, Z4]
 rw [Z50]
 rw [w1, w2, if_pos Zd, Zd6 (k + 1) Zo Zo Zo, Z4]
 rw [Z50]
 rw [if_neg Zd, w3, ZbA k 2 Zo Zd Zd Zo, Z4]
 simp only []
 rw [Z8v _ _ k Zo Zo, Z4]
 by_cases h : x ≤ (a / x + x) / 2
 ·rw [if_pos h, if_pos (Z5S.2 h)]
 rw [if_neg h, if_neg (fun q => h (Z5S.1 q))]
theorem Zaz (a x k : Nat) (ha : (ofN a).length ≤ 1024) (hx0 : 0 < x) (hx : (ofN x).length ≤ 512) (hk : 3000000 < k) :
  Zp.l0 (k + 7) (ofN a) 3 (ofN x) = if x ≤ (a / (x * x) + x + x) / 3 then some (ofN x) else Zp.l0 k (ofN a) 3 (ofN ((a / (x * x) + x + x) / 3)) := by
 have w1 : wrap64 ((3 : Int) - 1) = 2 := by rw [ZL Zd Zd]; rfl
 have w2 : wrap64 ((0 : Int) + 1) = 1 := by rw [ZL Zd Zd]; rfl
 have w4 : wrap64 ((1 : Int) + 1) = 2 := by rw [ZL Zd Zd]; rfl
 have w3 : IntKind.u64.wrap (3 : Int) = ((3 : Nat) : Int) := by decide
 have lx : (ofN (x * x)).length ≤ 1024 := Z9B hx hx Zo
 have px : 0 < x * x := zkz hx0 hx0
 have lq : (ofN (a / (x * x))).length ≤ 1024 := zk2 (Z0E (zkI _ _)) ha
 have ls : (ofN (a / (x * x) + x)).length ≤ 1025 := Z7l lq Zo
 have ls2 : (ofN (a / (x * x) + x + x)).length ≤ 1026 := Z7l ls Zo
 have ln : (ofN ((a / (x * x) + x + x) / 3)).length ≤ 1026 := zk2 (Z0E (zkI _ _)) ls2
 rw [Z9C]
 rw [Z4Z]
 rw [w1, w2, if_pos Zd, Zax (k + 5) Zo Zo, Z4]
 rw [Z4Z]
 rw [w4, if_pos Zd, Z8M (k + 4) Zo Zo Zo, Z4]
 rw [Z4Z]
 rw [if_neg Zd, Z8I a (x * x) (k + 3) Zo ha lx Zo, Z4]
 rw [Z50]
 rw [w1, w2, if_pos Zd, Zd6 (k + 2) Zo Zo Zo, Z4]
 rw [Z50]
 rw [w4, if_pos Zd, Zd6 (k + 1) Zo Zo Zo, Z4]
 rw [Z50]
 rw [if_neg Zd, w3, ZbA k 3 Zo Zd Zd Zo, Z4]
 simp only []
 rw [Z8v _ _ k Zo Zo, Z4]
 by_cases h : x ≤ (a / (x * x) + x + x) / 3
 ·rw [if_pos h, if_pos (Z5S.2 h)]
 rw [if_neg h, if_neg (fun q => h (Z5S.1 q))]
def IsR (P : Nat → Nat) (a s : Nat) : Prop := P s ≤ a ∧ ∀ r, P r ≤ a → r ≤ s
theorem ZaA (a : Nat) (ha0 : 0 < a) (ha : (ofN a).length ≤ 1024) (x : Nat) : ∀ k, 0 < x → (ofN x).length ≤ 1024 → (∀ r, r * r ≤ a → r ≤ x) → 5 * x + 4000000 < k →
  ∃ s, Zp.l0 k (ofN a) 2 (ofN x) = some (ofN s) ∧ IsR (fun r => r * r) a s ∧ s ≤ x := by
 induction x using Nat.strongRecOn with
 | _ x ih =>
  intro k hx hl hr hk
  obtain ⟨k, rfl⟩ : ∃ m, k = m + 5 := ⟨k - 5, by omega⟩
  have st := Zay a x k ha hx hl Zo
  by_cases h : x ≤ (a / x + x) / 2
  ·rw [if_pos h] at st
   refine ⟨x, st, ⟨?_, hr⟩, zk6 _⟩
   have : x ≤ a / x := by omega
   exact (zkN hx).1 this
  rw [if_neg h] at st
  have hr2 : ∀ r, r * r ≤ a → r ≤ (a / x + x) / 2 := fun r e => by have := Zes hx e; omega
  have h1 := hr2 1 Zo
  obtain ⟨s, e, i, l⟩ := ih ((a / x + x) / 2) Zo k Zo (zk2 (Z0E Zo) hl) hr2 Zo
  exact ⟨s, st.trans e, i, by omega⟩
theorem ZaB (a : Nat) (ha0 : 0 < a) (ha : (ofN a).length ≤ 1024) (x : Nat) : ∀ k, 0 < x → (ofN x).length ≤ 512 → (∀ r, r * r * r ≤ a → r ≤ x) → 7 * x + 4000000 < k →
  ∃ s, Zp.l0 k (ofN a) 3 (ofN x) = some (ofN s) ∧ IsR (fun r => r * r * r) a s ∧ s ≤ x := by
 induction x using Nat.strongRecOn with
 | _ x ih =>
  intro k hx hl hr hk
  obtain ⟨k, rfl⟩ : ∃ m, k = m + 7 := ⟨k - 7, by omega⟩
  have st := Zaz a x k ha hx hl Zo
  by_cases h : x ≤ (a / (x * x) + x + x) / 3
  ·rw [if_pos h] at st
   refine ⟨x, st, ⟨?_, hr⟩, zk6 _⟩
   have : x ≤ a / (x * x) := by omega
   have := (zkN (zkz hx hx)).1 this
   rw [← zkc] at this; exact this
  rw [if_neg h] at st
  have hr2 : ∀ r, r * r * r ≤ a → r ≤ (a / (x * x) + x + x) / 3 := fun r e => by have := Zet hx e; omega
  have h1 := hr2 1 Zo
  obtain ⟨s, e, i, l⟩ := ih ((a / (x * x) + x + x) / 3) Zo k Zo (zk2 (Z0E Zo) hl) hr2 Zo
  exact ⟨s, st.trans e, i, by omega⟩
theorem Zfy (m k : Nat) (hm : m ≤ 65536) (hk : 3000000 < k) : ZD.f k [1] (m : Int) = some (ofN (2 ^ m)) := by
 have h := Z4X [1] m k (Z2c.2 ⟨by omega, Z2d⟩) Zo (by simp) (by simp; omega) (by simp; omega)
 have v : val [1] = 1 := rfl
 rw [v, Zk6] at h; exact h
theorem Z8N {m n : Nat} (h : m < 64 * n) : (ofN (2 ^ m)).length ≤ n := by
 rw [Z0N]
 have e : (18446744073709551616 : Nat) ^ n = 2 ^ (64 * n) := by rw [zkK]
 rw [e]; exact Zk1 Zd h
theorem Zfz {a m : Nat} (h : bl a ≤ 2 * m) : ∀ r, r * r ≤ a → r ≤ 2 ^ m := fun r e => by
 apply Classical.byContradiction; intro g
 have h1 : 2 ^ m * 2 ^ m < r * r := zkY Zo Zo (zkq (zkD (2 ^ m)) Zo)
 rw [← zkb] at h1
 have h2 := Z2J a
 have h3 : 2 ^ bl a ≤ 2 ^ (m + m) := zkj Zd Zo
 omega
theorem ZfA {a m : Nat} (h : bl a ≤ 3 * m) : ∀ r, r * r * r ≤ a → r ≤ 2 ^ m := fun r e => by
 apply Classical.byContradiction; intro g
 have h0 : 2 ^ m * 2 ^ m ≤ r * r := zkR Zo Zo
 have hp : 0 < 2 ^ m := zkh Zd
 have h1 : 2 ^ m * 2 ^ m * 2 ^ m ≤ r * r * 2 ^ m := zkR h0 (zk6 _)
 have h1' : r * r * 2 ^ m < r * r * r := Nat.mul_lt_mul_of_pos_left Zo (zkz Zo Zo)
 rw [← zkb, ← zkb] at h1
 have h2 := Z2J a
 have h3 : 2 ^ bl a ≤ 2 ^ (m + m + m) := zkj Zd Zo
 omega
theorem Zd7 (a k : Nat) (ha : (ofN a).length ≤ 1024) (hb : bl a ≤ 65536) (hk : 5 * 2 ^ ((bl a + 1) / 2) + 5000000 < k) :
  ∃ s, Zp.f k (ofN a) 2 = some (ofN s) ∧ IsR (fun r => r * r) a s := by
 unfold Zp.f
 by_cases h : a = 0
 ·subst h
  refine ⟨0, ?_, by simp, fun r hr => ?_⟩
  ·rw [Z0e]; rfl
  have : r * r = 0 := by simpa using hr
  have := Zk5.1 this; omega
 have hl : ¬ ((ofN a).length : Int) = 0 := by have := Z1f (v := a); omega
 obtain ⟨m, hm⟩ : ∃ m, m = (bl a + 1) / 2 := ⟨_, rfl⟩
 rw [← hm] at hk
 have e1 : wrap64 (Int.tdiv (wrap64 (wrap64 (((bl a : Nat) : Int) + 2) - 1)) 2) = (m : Int) := by
  rw [ZL (x := ((bl a : Nat) : Int) + 2) Zo Zo, ZL (x := ((bl a : Nat) : Int) + 2 - 1) Zo Zo]
  have : ((bl a : Nat) : Int) + 2 - 1 = ((bl a + 1 : Nat) : Int) := by omega
  rw [this, show (2 : Int) = ((2 : Nat) : Int) from rfl, Z80, ← hm]
  exact ZL Zo Zo
 rw [if_neg hl, Z6I a k ha Zo, Z4, if_neg Zd, e1, Zfy m k Zo Zo, Z4]
 obtain ⟨s, e, i, _⟩ := ZaA a Zo ha (2 ^ m) k (zkh Zd) (Z8N Zo) (Zfz Zo) Zo
 exact ⟨s, e, i⟩
theorem Zd8 (a k : Nat) (ha : (ofN a).length ≤ 1024) (hb : bl a ≤ 65536) (hk : 7 * 2 ^ ((bl a + 2) / 3) + 5000000 < k) :
  ∃ s, Zp.f k (ofN a) 3 = some (ofN s) ∧ IsR (fun r => r * r * r) a s ∧ (ofN s).length ≤ 512 := by
 unfold Zp.f
 by_cases h : a = 0
 ·subst h
  refine ⟨0, ?_, ⟨by simp, fun r hr => ?_⟩, by rw [Z0e]; decide⟩
  ·rw [Z0e]; rfl
  have h1 : r * r * r = 0 := by simpa using hr
  have h2 := Zk5.1 h1
  rcases h2 with h2 | h2
  ·have := Zk5.1 h2; omega
  omega
 have hl : ¬ ((ofN a).length : Int) = 0 := by have := Z1f (v := a); omega
 obtain ⟨m, hm⟩ : ∃ m, m = (bl a + 2) / 3 := ⟨_, rfl⟩
 rw [← hm] at hk
 have e1 : wrap64 (Int.tdiv (wrap64 (wrap64 (((bl a : Nat) : Int) + 3) - 1)) 3) = (m : Int) := by
  rw [ZL (x := ((bl a : Nat) : Int) + 3) Zo Zo, ZL (x := ((bl a : Nat) : Int) + 3 - 1) Zo Zo]
  have : ((bl a : Nat) : Int) + 3 - 1 = ((bl a + 2 : Nat) : Int) := by omega
  rw [this, show (3 : Int) = ((3 : Nat) : Int) from rfl, Z80, ← hm]
  exact ZL Zo Zo
 have l2 : (ofN (2 ^ m)).length ≤ 512 := Z8N Zo
 rw [if_neg hl, Z6I a k ha Zo, Z4, if_neg Zd, e1, Zfy m k Zo Zo, Z4]
 obtain ⟨s, e, i, le⟩ := ZaB a Zo ha (2 ^ m) k (zkh Zd) l2 (ZfA Zo) Zo
 exact ⟨s, e, i, zk2 (Z0E le) l2⟩
theorem Z9D {a b : Nat} (h : (ofN a).length ≤ 1024) : (ofN (a - b)).length ≤ 1024 := zk2 (Z0E (Nat.sub_le _ _)) h
theorem Z7m (a : List Int) (k : Nat) (ha : Ws a) (na : a.length < 17592186044000) (hk : 5 * 2 ^ ((bl (val a) + 1) / 2) + a.length + 6000000 < k) :
  (val a < big → ∃ s, Z23.f k a = some (ofN s, ofN (val a - s * s), 0) ∧ IsR (fun r => r * r) (val a) s) ∧ (¬ val a < big → Z23.f k a = some ([], [], 3)) := by
 unfold Z23.f Z14.f
 rw [Z42 a k ha Zo Zo, Z4]
 refine ⟨fun h => ?_, fun h => ?_⟩
 ·have la := Z0X h
  obtain ⟨s, e, i⟩ := Zd7 (val a) k la (Z0O.1 h) Zo
  have hs : s * s ≤ val a := i.1
  have hs1 : s ≤ val a := by
   rcases Zk4 s with z | z
   ·omega
   exact zk2 (Nat.le_mul_of_pos_left s z) hs
  have ls : (ofN s).length ≤ 1024 := zk2 (Z0E hs1) la
  have ls2 : (ofN (s * s)).length ≤ 1024 := zk2 (Z0E hs) la
  refine ⟨s, ?_, i⟩
  obtain ⟨k, rfl⟩ : ∃ m, k = m + 3 := ⟨k - 3, by omega⟩
  have w2 : wrap64 ((0 : Int) + 1) = 1 := by rw [ZL Zd Zd]; rfl
  have w4 : wrap64 ((1 : Int) + 1) = 2 := by rw [ZL Zd Zd]; rfl
  simp only [if_pos h]
  rw [if_pos trivial, e, Z4]
  rw [Z3f]
  rw [w2, if_pos Zd, Zax (k + 2) ls Zo, Z4]
  rw [Z3f]
  rw [w4, if_pos Zd, Z8M (k + 1) ls ls Zo, Z4]
  rw [Z3f]
  have o1 := Z3p (ofN s) Zo
  have l3 := Z9D (b := s * s) la
  have o2 := Z3p (ofN (val a - s * s)) Zo
  rw [if_neg Zd, o1, Z4, Zbo (val a) (s * s) hs k Zo Zo, Z4, o2, Z4, Z4]
 simp only [if_neg h]
 rw [if_neg Zd, Z4]
theorem Zeu (a : List Int) (k : Nat) (ha : Ws a) (na : a.length < 17592186044000) (hk : 7 * 2 ^ ((bl (val a) + 2) / 3) + a.length + 6000000 < k) :
  (val a < big → ∃ s, Z2R.f k a = some (ofN s, ofN (val a - s * s * s), 0) ∧ IsR (fun r => r * r * r) (val a) s ∧ (ofN s).length ≤ 512) ∧ (¬ val a < big → Z2R.f k a = some ([], [], 3)) := by
 unfold Z2R.f Z14.f
 rw [Z42 a k ha Zo Zo, Z4]
 refine ⟨fun h => ?_, fun h => ?_⟩
 ·have la := Z0X h
  obtain ⟨s, e, i, ls⟩ := Zd8 (val a) k la (Z0O.1 h) Zo
  have hs : s * s * s ≤ val a := i.1
  have ls2 : (ofN (s * s)).length ≤ 1024 := Z9B ls ls Zo
  have ls3 : (ofN (s * s * s)).length ≤ 1024 := zk2 (Z0E hs) la
  refine ⟨s, ?_, i, ls⟩
  obtain ⟨k, rfl⟩ : ∃ m, k = m + 4 := ⟨k - 4, by omega⟩
  have w2 : wrap64 ((0 : Int) + 1) = 1 := by rw [ZL Zd Zd]; rfl
  have w4 : wrap64 ((1 : Int) + 1) = 2 := by rw [ZL Zd Zd]; rfl
  have w5 : wrap64 ((2 : Int) + 1) = 3 := by rw [ZL Zd Zd]; rfl
  simp only [if_pos h]
  rw [if_pos trivial, e, Z4]
  rw [Z3f]
  rw [w2, if_pos Zd, Zax (k + 3) Zo Zo, Z4]
  rw [Z3f]
  rw [w4, if_pos Zd, Z8M (k + 2) Zo Zo Zo, Z4]
  rw [Z3f]
  rw [w5, if_pos Zd, Z8M (k + 1) ls2 Zo Zo, Z4]
  rw [Z3f]
  have o1 := Z3p (ofN s) Zo
  have l3 := Z9D (b := s * s * s) la
  have o2 := Z3p (ofN (val a - s * s * s)) Zo
  rw [if_neg Zd, o1, Z4, Zbo (val a) (s * s * s) hs k Zo Zo, Z4, o2, Z4, Z4]
 simp only [if_neg h]
 rw [if_neg Zd, Z4]
theorem ZbB (l : List Int) (hw : Ws l) (hn : l.length < 4611686018427387904) (n : Nat) : ∀ k, n ≤ l.length → n < k → Zq.l0 k l n = some (ofN (val (l.take n))) := by
 induction n with
 | zero =>
  intro k hj hk
  obtain ⟨k, rfl⟩ : ∃ m, k = m + 1 := ⟨k - 1, by omega⟩
  simp only [Zq.l0]
  rw [if_neg Zo, if_pos Zo, if_pos Zo]
  simp [val, Z0e]
 | succ n ih =>
  intro k hj hk
  obtain ⟨k, rfl⟩ : ∃ m, k = m + 1 := ⟨k - 1, by omega⟩
  simp only [Zq.l0]
  have e : wrap64 (((n + 1 : Nat) : Int) - 1) = (n : Int) := by rw [ZL Zo Zo]; omega
  rw [e, if_pos Zo, if_pos Zo, if_pos Zo, Z06]
  by_cases h : l.getD n 0 = 0
  ·rw [if_pos h, ih k Zo Zo, Z05 l n Zo, h]; simp
  rw [if_neg h, if_pos Zo, if_pos Zo, zk0, ← Z8w hw Zo h]
theorem Z2r (l : List Int) (k : Nat) (hw : Ws l) (hn : l.length < 4611686018427387904) (hk : l.length < k) : Zq.f k l = some (ofN (val l)) := by
 unfold Zq.f
 rw [ZbB l hw hn _ k (zk6 _) hk, Zr _ _ (zk6 _)]
theorem ZbC (x y : List Int) (hx : Ws x) (hy : Ws y) (e : x.length = y.length) (hn : x.length < 4611686018427387904) (j : Nat) : ∀ (k : Nat), j ≤ x.length → j < k →
  Z1t.l0 k x y ((j : Int) - 1) = some (Z2y (val (x.take j)) (val (y.take j))) := by
 induction j with
 | zero =>
  intro k hj hk
  obtain ⟨k, rfl⟩ : ∃ m, k = m + 1 := ⟨k - 1, by omega⟩
  simp only [Z1t.l0]
  rw [if_neg Zo]
  simp [val, Z2y]
 | succ j ih =>
  intro k hj hk
  obtain ⟨k, rfl⟩ : ∃ m, k = m + 1 := ⟨k - 1, by omega⟩
  have e0 : ((j + 1 : Nat) : Int) - 1 = (j : Int) := by omega
  have e1 : wrap64 ((j : Int) - 1) = (j : Int) - 1 := ZL Zo Zo
  have q1 := Z01 hx j
  have q2 := Z01 hy j
  have p1 : val (x.take j) < 18446744073709551616 ^ j := Z2l hx j
  have p2 : val (y.take j) < 18446744073709551616 ^ j := Z2l hy j
  simp only [Z1t.l0]
  rw [e0, if_pos Zo, if_pos Zo, if_pos Zo, if_pos Zo, Z06, Z06, e1, ih k Zo Zo, Z05 x j Zo, Z05 y j Zo, Z6i p1 p2]
  by_cases a : x.getD j 0 = y.getD j 0
  ·rw [if_pos a, a, if_neg Zo, if_neg Zo]
  rw [if_neg a]
  by_cases b : x.getD j 0 < y.getD j 0
  ·rw [if_pos b, if_pos Zo]
  rw [if_neg b, if_neg Zo, if_pos Zo]
theorem Zev (a b : List Int) (k : Nat) (ha : Ws a) (hb : Ws b) (na : a.length < 17592186044000) (nb : b.length < 17592186044000) (hk : a.length + b.length < k) : Z1t.f k a b = some (Z2y (val a) (val b)) := by
 unfold Z1t.f
 rw [Z2r a k ha Zo Zo, Z4, Z2r b k hb Zo Zo, Z4]
 have hla : (ofN (val a)).length ≤ a.length := (Z0N _ _).2 (Z1M ha)
 by_cases e : (ofN (val a)).length = (ofN (val b)).length
 ·have w : wrap64 (((ofN (val a)).length : Int) - 1) = ((ofN (val a)).length : Int) - 1 := ZL Zo Zo
  rw [if_pos Zo, w, ZbC _ _ (ZE _) (ZE _) e Zo _ k (zk6 _) Zo, Zr _ _ (zk6 _), Zr _ _ Zo, Ze, Ze]
 rw [if_neg Zo]
 by_cases l : (ofN (val a)).length < (ofN (val b)).length
 ·have := Z4r l
  rw [if_pos Zo]; unfold Z2y; rw [if_pos this]
 have := Z4r (show (ofN (val b)).length < (ofN (val a)).length by omega)
 rw [if_neg Zo]; unfold Z2y; rw [if_neg Zo, if_neg Zo]
theorem ZbD (k : Nat) : ∀ a b o c n j, Z0g.l0 k a b o c n j = Z0g.l100 k a b o c n j := by
 induction k with
 | zero => intro a b o c n j; simp only [Z0g.l0, Z0g.l100]
 | succ k ih => intro a b o c n j; simp only [Z0g.l0, Z0g.l100, ih]
theorem Z7K (a b : List Int) (ha : Ws a) (hb : Ws b) (na : a.length < 4611686018427387900) (nb : b.length ≤ a.length) (r : Nat) : ∀ (j : Nat) (k : Nat) (o : List Int) (c : Nat), a.length - j = r → j ≤ a.length → r + a.length + 2 < k → o.length = a.length + 1 → Ws o → c ≤ 1 →
  val (o.take j) + 18446744073709551616 ^ j * c = val (a.take j) + val (b.take j) →
  Z0g.l100 k a b o c a.length j = some (ofN (val a + val b)) := by
 induction r with
 | zero =>
  intro j k o c hr hj hk ho hw hc hv
  obtain ⟨k, rfl⟩ : ∃ m, k = m + 1 := ⟨k - 1, by omega⟩
  obtain rfl : j = a.length := by omega
  simp only [Z0g.l100]
  rw [if_neg Zo, if_pos Zo, if_pos Zo, zk0]
  rw [Z2r _ k (Z1V hw _ Zo Zo) (by rw [zk9]; omega) (by rw [zk9]; omega), Z4]
  have e := Z0S o a.length (c : Int) Zo
  rw [Zr _ (a.length + 1) (by rw [zk9]; omega), zk0] at e
  rw [Zr a _ (zk6 _), Zr b _ nb] at hv
  rw [e, hv]
 | succ r ih =>
  intro j k o c hr hj hk ho hw hc hv
  obtain ⟨k, rfl⟩ : ∃ m, k = m + 1 := ⟨k - 1, by omega⟩
  simp only [Z0g.l100]
  have i5 : ¬ (j : Int) < (b.length : Int) → 0 = b.getD j 0 := fun h => (Z2C _ _ Zo).symm
  have i4 : j < o.length := by omega
  have i1 : a.length - (j + 1) = r := by omega
  have i2 : j + 1 ≤ a.length := by omega
  have i3 : r + a.length + 2 < k := by omega
  have pa := Z01 ha j; have pb := Z01 hb j
  have t1 : (j : Int) < (a.length : Int) := by omega
  have t2 : (0 : Int) ≤ (j : Int) := by omega
  have t3 : (c : Int) ≤ 1 := by omega
  have t4 : (j : Int) < (o.length : Int) := by omega
  have wj : wrap64 ((j : Int) + 1) = ((j + 1 : Nat) : Int) := by rw [ZL Zo Zo]; omega
  have key : ∀ y : Int, 0 ≤ y → y < 18446744073709551616 → y = b.getD j 0 →
    Z0g.l100 k a b (o.set j (add64s (a.getD j 0) y c)) (add64c (a.getD j 0) y c) a.length ((j + 1 : Nat) : Int) = some (ofN (val a + val b)) := by
   intro y y0 y1 hy
   obtain ⟨d, hd, ed⟩ := Z7h (x := a.getD j 0) (y := y) (c := c) pa.2 y1 hc
   rw [ed]
   have hs : (add64s (a.getD j 0) y c).toNat + 18446744073709551616 * d = (a.getD j 0).toNat + y.toNat + c := by
    rw [Z49]; rw [Z4L] at ed
    simp only [zk0] at ed ⊢
    omega
   refine ih (j + 1) k _ d i1 i2 i3 (by rw [zk9]; exact ho) (Z1V hw _ (Z7f _ _ _) (Z7g _ _ _)) hd ?_
   rw [Z0S o j _ i4, ZU a, ZU b, ← hy, zkk]
   exact Z3u hs hv
  rw [if_pos t1]
  by_cases h : (j : Int) < (b.length : Int)
  ·rw [if_pos h, if_pos t2, if_pos t1, if_pos t3, if_pos t4, Z06, Z06, zk0, wj]; exact key _ pb.1 pb.2 rfl
  rw [if_neg h, if_pos t2, if_pos t1, if_pos t3, if_pos t4, Z06, zk0, wj]; exact key 0 (Int.le_refl 0) Zd (i5 h)
theorem Zew (a b : List Int) (ha : Ws a) (hb : Ws b) (na : a.length < 17592186044000) (nb : b.length < 17592186044000) (k : Nat) (hk : 2 * (a.length + b.length) + 3 < k) : Z0g.f k a b = some (ofN (val a + val b)) := by
 have z : ∀ n, val ((List.replicate n (0 : Int)).take 0) + 18446744073709551616 ^ 0 * 0 = 0 := fun n => by simp [val]
 unfold Z0g.f
 by_cases h : (a.length : Int) < (b.length : Int)
 ·have w : wrap64 ((b.length : Int) + 1) = ((b.length + 1 : Nat) : Int) := by rw [ZL Zo Zo]; omega
  rw [if_pos h, w, if_pos Zo, zk0, if_pos Zo, ZbD]
  have t := Z7K b a hb ha Zo Zo b.length 0 k (List.replicate (b.length + 1) 0) 0 Zo Zo Zo (by simp) (Z0Y _) Zo (by simp [val])
  rw [zkO (val a)]; exact t
 have w : wrap64 ((a.length : Int) + 1) = ((a.length + 1 : Nat) : Int) := by rw [ZL Zo Zo]; omega
 rw [if_neg h, w, if_pos Zo, zk0, if_pos Zo]
 exact Z7K a b ha hb Zo Zo a.length 0 k (List.replicate (a.length + 1) 0) 0 Zo Zo Zo (by simp) (Z0Y _) Zo (by simp [val])
theorem ZbE (a b : List Int) (ha : Ws a) (hb : Ws b) (na : a.length < 4611686018427387904) (hle : val b ≤ val a) (hl : b.length ≤ a.length) (r : Nat) : ∀ (j : Nat) (k : Nat) (o : List Int) (c : Nat), a.length - j = r → j ≤ a.length → r + a.length + 2 < k → o.length = a.length → Ws o → c ≤ 1 →
  val (a.take j) + 18446744073709551616 ^ j * c = val (o.take j) + val (b.take j) →
  Z18.l0 k a b o c a.length j = some (ofN (val a - val b)) := by
 induction r with
 | zero =>
  intro j k o c hr hj hk ho hw hc hv
  obtain ⟨k, rfl⟩ : ∃ m, k = m + 1 := ⟨k - 1, by omega⟩
  obtain rfl : j = a.length := by omega
  simp only [Z18.l0]
  rw [if_neg Zo, Z2r _ k hw Zo Zo, Z4]
  have := Z1M hw
  rw [ho] at this
  rw [Zr _ _ Zo, Zr _ _ Zo, Zr _ _ Zo] at hv
  generalize 18446744073709551616 ^ a.length = p at *
  have : c = 0 := by
   rcases Nat.lt_or_ge c 1 with h | h
   ·omega
   have : c = 1 := by omega
   subst this; omega
  subst this
  rw [Zk3] at hv
  congr 2; omega
 | succ r ih =>
  intro j k o c hr hj hk ho hw hc hv
  obtain ⟨k, rfl⟩ : ∃ m, k = m + 1 := ⟨k - 1, by omega⟩
  simp only [Z18.l0]
  have i5 : ¬ (j : Int) < (b.length : Int) → 0 = b.getD j 0 := fun h => (Z2C _ _ Zo).symm
  have i4 : j < o.length := by omega
  have i1 : a.length - (j + 1) = r := by omega
  have i2 : j + 1 ≤ a.length := by omega
  have i3 : r + a.length + 2 < k := by omega
  have pa := Z01 ha j; have pb := Z01 hb j
  have t1 : (j : Int) < (a.length : Int) := by omega
  have t2 : (0 : Int) ≤ (j : Int) := by omega
  have t3 : (c : Int) ≤ 1 := by omega
  have t4 : (j : Int) < (o.length : Int) := by omega
  have wj : wrap64 ((j : Int) + 1) = ((j + 1 : Nat) : Int) := Z0d Zo
  have key : ∀ y : Int, 0 ≤ y → y < 18446744073709551616 → y = b.getD j 0 →
    Z18.l0 k a b (o.set j (sub64s (a.getD j 0) y c)) (sub64c (a.getD j 0) y c) a.length ((j + 1 : Nat) : Int) = some (ofN (val a - val b)) := by
   intro y y0 y1 hy
   obtain ⟨d, hd, ed, hs⟩ := Z5e pa.1 pa.2 y0 y1 hc
   rw [ed]
   refine ih (j + 1) k _ d i1 i2 i3 (by rw [zk9]; exact ho) (Z1V hw _ (Z5Q _ _ _) (Z5R _ _ _)) hd ?_
   rw [Z0S o j _ i4, ZU a, ZU b, ← hy, zkk]
   exact Z3u hs hv
  rw [if_pos t1]
  by_cases h : (j : Int) < (b.length : Int)
  ·rw [if_pos h, if_pos t2, if_pos t1, if_pos t3, if_pos t4, Z06, Z06, zk0, wj]; exact key _ pb.1 pb.2 rfl
  rw [if_neg h, if_pos t2, if_pos t1, if_pos t3, if_pos t4, Z06, zk0, wj]; exact key 0 (Int.le_refl 0) Zd (i5 h)
theorem Z9E (a b : Nat) (h : b ≤ a) (k : Nat) (na : (ofN a).length < 17592186044000) (hk : 2 * (ofN a).length + 3 < k) : Z18.f k (ofN a) (ofN b) = some (ofN (a - b)) := by
 unfold Z18.f
 rw [if_pos Zo, zk0, if_pos Zo]
 have t := ZbE (ofN a) (ofN b) (ZE a) (ZE b) Zo (by rw [Ze, Ze]; exact h) (Z0E h) (ofN a).length 0 k (List.replicate (ofN a).length 0) 0 Zo Zo Zo (by simp) (Z0Y _) Zo (by simp [val])
 rw [Ze, Ze] at t; exact t
theorem ZbF (x y : Int) : add64s x y 0 = add64s y x 0 := by rw [Z49, Z49, zkO x.toNat]
theorem ZbG (x y : Int) : add64c x y 0 = add64c y x 0 := by rw [Z4L, Z4L, zkO x.toNat]
theorem Zgj {o c p : Nat} (h : (o + c + p) / 18446744073709551616 < 18446744073709551616) :
  add64s (o : Int) (add64s ((p % 18446744073709551616 : Nat) : Int) (c : Int) 0) 0 = (((o + c + p) % 18446744073709551616 : Nat) : Int) ∧
  IntKind.u64.wrap ((IntKind.u64.wrap (((p / 18446744073709551616 : Nat) : Int) + add64c ((p % 18446744073709551616 : Nat) : Int) (c : Int) 0)) + add64c (o : Int) (add64s ((p % 18446744073709551616 : Nat) : Int) (c : Int) 0) 0) = (((o + c + p) / 18446744073709551616 : Nat) : Int) := by
 have e : c + o + p = o + c + p := by omega
 obtain ⟨m1, m2⟩ := Zbv (o := c) (c := o) (p := p) (by rw [e]; exact h)
 rw [ZbF (o : Int), ZbG (o : Int), m1, m2, e]
 exact ⟨rfl, rfl⟩
theorem ZaC (a b : List Int) (hb : Ws b) (i x L F V0 : Nat) (R : Option (List Int)) (hx : x < 18446744073709551616) (hL : i + b.length + 1 ≤ L) (hL2 : L < 70368744177664)
  (next : ∀ (k : Nat) (o : List Int), F < k → o.length = L → Ws o → val (o.take (i + b.length + 1)) = V0 + 18446744073709551616 ^ i * (x * val b) → (∀ m, i + b.length + 1 ≤ m → o.getD m 0 = 0) → Z0z.l0 k b o a a.length ((i + 1 : Nat) : Int) = R) (s : Nat) :
  ∀ (j k : Nat) (o : List Int) (c : Nat), b.length - j = s → j ≤ b.length → F + s + 1 < k → o.length = L → Ws o → c < 18446744073709551616 → (∀ m, i + b.length ≤ m → o.getD m 0 = 0) →
  val (o.take (i + b.length)) + 18446744073709551616 ^ (i + j) * c = V0 + 18446744073709551616 ^ i * (x * val (b.take j)) →
  Z0z.l1 k b o i x c a a.length i b b.length j = R := by
 induction s with
 | zero =>
  intro j k o c hs hj hk ho hw hc hz hv
  obtain ⟨k, rfl⟩ : ∃ m, k = m + 1 := ⟨k - 1, by omega⟩
  obtain rfl : j = b.length := by omega
  have g0 : ¬ ((b.length : Int) < (b.length : Int)) := by omega
  have b1 : i + b.length < 4611686018427387904 := by omega
  have b2 : i < 4611686018427387904 := by omega
  have g2 : ((i + b.length : Nat) : Int) < (o.length : Int) := by omega
  have i1 : i + b.length < o.length := by omega
  have i2 : F < k := by omega
  have hz' : ∀ m, i + b.length + 1 ≤ m → i + b.length ≤ m ∧ i + b.length ≠ m := fun m h => by omega
  have ww : wrap64 ((i : Int) + (b.length : Int)) = ((i + b.length : Nat) : Int) := by rw [ZL Zo Zo]; omega
  simp only [Z0z.l1]
  rw [if_neg g0, ww, if_pos (zk1 _), if_pos g2, Z0d b2, zk0]
  refine next k _ i2 (by rw [zk9]; exact ho) (Z1V hw _ (zk1 _) (zki.2 hc)) ?_ ?_
  ·rw [Z0S o _ _ i1, zk0, hv, Zr _ _ (zk6 _)]
  intro m hm
  obtain ⟨h1, h2⟩ := hz' m hm
  rw [Nm.Z1p _ _ _ _ h2]; exact hz m h1
 | succ s ih =>
  intro j k o c hs hj hk ho hw hc hz hv
  obtain ⟨k, rfl⟩ : ∃ m, k = m + 1 := ⟨k - 1, by omega⟩
  have i1 : b.length - (j + 1) = s := by omega
  have i2 : j + 1 ≤ b.length := by omega
  have i3 : F + s + 1 < k := by omega
  have i4 : i + j < i + b.length := by omega
  have i5 : i + b.length ≤ o.length := by omega
  have g1 : (j : Int) < (b.length : Int) := by omega
  have g2 : ((i + j : Nat) : Int) < (o.length : Int) := by omega
  have b3 : j < 4611686018427387904 := by omega
  have hz' : ∀ m, i + b.length ≤ m → i + j ≠ m := fun m h => by omega
  have ww : wrap64 ((i : Int) + (j : Int)) = ((i + j : Nat) : Int) := by rw [ZL Zo Zo]; omega
  obtain ⟨p0, p1⟩ := Z01 hb j
  obtain ⟨q0, q1⟩ := Z01 hw (i + j)
  have ey := Z1D p0
  have eo := Z1D q0
  have rs := Z8G b i j x
  have vs := fun n : Nat => Z7d o (i + j) (i + b.length) (n : Int) i4 i5
  generalize hyn : (b.getD j 0).toNat = y at *
  generalize hon : (o.getD (i + j) 0).toNat = u at *
  have y1 : y < 18446744073709551616 := zki.1 (ey ▸ p1)
  have u1 : u < 18446744073709551616 := zki.1 (eo ▸ q1)
  have hd := Z5B u1 hc hx y1
  obtain ⟨m1, m2⟩ := Zgj (o := u) (c := c) (p := x * y) hd
  have hn : (u + c + x * y) % 18446744073709551616 < 18446744073709551616 := zks _ Zd
  have hdm := Nat.mod_add_div (u + c + x * y) 18446744073709551616
  simp only [Z0z.l1]
  rw [if_pos g1, if_pos (zk1 _), if_pos g1, Z06, ey, Z5f x y hx y1, Z4, ww, if_pos (zk1 _), if_pos g2, Z06, eo, Z0d b3, zk0]
  dsimp only
  rw [m1, m2]
  refine ih (j + 1) k _ _ i1 i2 i3 (by rw [zk9]; exact ho) (Z1V hw _ (zk1 _) (zki.2 hn)) hd ?_ ?_
  ·intro m hm
   rw [Nm.Z1p _ _ _ _ (hz' m hm)]; exact hz m hm
  have vs' := vs ((u + c + x * y) % 18446744073709551616)
  rw [zk0] at vs'
  rw [rs]
  exact Z7E vs' hdm hv
theorem ZaD (a b : List Int) (ha : Ws a) (hb : Ws b) (L : Nat) (hL : a.length + b.length = L) (hL2 : L < 35184372088832) (s : Nat) : ∀ (i k : Nat) (o : List Int), a.length - i = s → i ≤ a.length → s * (b.length + 2) + L + 10 < k → o.length = L → Ws o → (∀ m, i + b.length ≤ m → o.getD m 0 = 0) →
  val (o.take (i + b.length)) = val (a.take i) * val b → Z0z.l0 k b o a a.length i = some (ofN (val a * val b)) := by
 induction s with
 | zero =>
  intro i k o hs hi hk ho hw hz hv
  obtain ⟨k, rfl⟩ : ∃ m, k = m + 1 := ⟨k - 1, by omega⟩
  obtain rfl : i = a.length := by omega
  have g0 : ¬ ((a.length : Int) < (a.length : Int)) := by omega
  simp only [Z0z.l0]
  rw [if_neg g0, Z2r o k hw Zo Zo, Z4]
  rw [Zr o _ Zo, Zr a _ (zk6 _)] at hv
  rw [hv]
 | succ s ih =>
  intro i k o hs hi hk ho hw hz hv
  rw [Nat.succ_mul] at hk
  obtain ⟨k, rfl⟩ : ∃ m, k = m + 1 := ⟨k - 1, by omega⟩
  have i1 : a.length - (i + 1) = s := by omega
  have i2 : i + 1 ≤ a.length := by omega
  have g1 : (i : Int) < (a.length : Int) := by omega
  have hl : i + b.length + 1 ≤ L := by omega
  have hL3 : L < 70368744177664 := by omega
  have hF : (s * (b.length + 2) + L + 10) + b.length + 1 < k := by omega
  have e1 : i + 1 + b.length = i + b.length + 1 := by omega
  obtain ⟨p0, p1⟩ := Z01 ha i
  have ex := Z1D p0
  have cs := Z8H a b i
  generalize hxn : (a.getD i 0).toNat = x at *
  have x1 : x < 18446744073709551616 := zki.1 (ex ▸ p1)
  simp only [Z0z.l0]
  rw [if_pos g1, if_pos (zk1 _), if_pos g1, Z06, ex]
  refine ZaC a b hb i x L (s * (b.length + 2) + L + 10) (val (a.take i) * val b) _ x1 hl hL3 ?_ b.length 0 k o 0 rfl (zkD _) hF ho hw Zd hz (by rw [hv]; simp [val])
  intro k' o' hk' ho' hw' hv' hz'
  refine ih (i + 1) k' o' i1 i2 hk' ho' hw' (by rw [e1]; exact hz') ?_
  rw [e1, hv', cs]
theorem Zex (a b : List Int) (k : Nat) (ha : Ws a) (hb : Ws b) (na : a.length < 17592186044000) (nb : b.length < 17592186044000) (hk : a.length + b.length < k) (hk2 : (ofN (val a)).length * ((ofN (val b)).length + 2) + (ofN (val a)).length + (ofN (val b)).length + 10 < k) : Z0z.f k a b = some (ofN (val a * val b)) := by
 unfold Z0z.f
 rw [Z2r a k ha Zo Zo, Z4, Z2r b k hb Zo Zo, Z4]
 have hla : (ofN (val a)).length ≤ a.length := (Z0N _ _).2 (Z1M ha)
 have hlb : (ofN (val b)).length ≤ b.length := (Z0N _ _).2 (Z1M hb)
 have t := ZaD (ofN (val a)) (ofN (val b)) (ZE _) (ZE _) _ rfl Zo (ofN (val a)).length 0 k (List.replicate ((ofN (val a)).length + (ofN (val b)).length) 0) rfl (zkD _) Zo (by simp) (Z0Y _) (fun m _ => Z3O _ _) (by rw [List.take_zero, List.take_replicate, Z2M]; simp [val])
 rw [Ze, Ze] at t
 have e : wrap64 (((ofN (val a)).length : Int) + ((ofN (val b)).length : Int)) = (((ofN (val a)).length + (ofN (val b)).length : Nat) : Int) := by rw [ZL Zo Zo]; omega
 rw [e, if_pos (zk1 _), zk0, if_pos Zo]
 exact t
theorem ZbH {a b : Nat} (h : a + b < 4611686018427387904) : wrap64 ((a : Int) + (b : Int)) = ((a + b : Nat) : Int) := by rw [ZL Zo Zo]; omega
def Q64 (n q : Nat) : Prop := wrap64 (Int.tdiv (n : Int) 64) = (q : Int)
theorem ZbI (n : Nat) (a : List Int) (ha : Ws a) (q s : Nat) (e1 : Q64 n q) (hs : s < 64) (na : a.length + q < 35184372088000) (r : Nat) : ∀ (j k : Nat) (o : List Int) (c : Nat), a.length - j = r → j ≤ a.length → r + a.length + q + 3 < k → o.length = a.length + q + 1 → Ws o → c < 2 ^ s → o.getD (q + j) 0 = c → (∀ i, q + j < i → o.getD i 0 = 0) →
  val (o.take (q + j)) + 18446744073709551616 ^ (q + j) * c = 18446744073709551616 ^ q * (val (a.take j) * 2 ^ s) →
  Z0f.l0 k n o s a a.length j = some (ofN (18446744073709551616 ^ q * (val a * 2 ^ s))) := by
 have h2 : 2 ^ s ≤ 18446744073709551616 := by rw [← Z1e (show s ≤ 64 by omega)]; exact zku _ (zkh Zd)
 induction r with
 | zero =>
  intro j k o c hr hj hk ho hw hc hg hz hv
  obtain ⟨k, rfl⟩ : ∃ m, k = m + 1 := ⟨k - 1, by omega⟩
  obtain rfl : j = a.length := by omega
  simp only [Z0f.l0]
  rw [if_neg Zo, Z2r _ k hw Zo Zo, Z4]
  have e := Z05 o (q + a.length) Zo
  rw [hg, zk0, hv, Zr _ _ Zo, Zr _ _ (zk6 _)] at e
  rw [e]
 | succ r ih =>
  intro j k o c hr hj hk ho hw hc hg hz
  obtain ⟨k, rfl⟩ : ∃ m, k = m + 1 := ⟨k - 1, by omega⟩
  have i1 : a.length - (j + 1) = r := by omega
  have i2 : j + 1 ≤ a.length := by omega
  have i3 : r + a.length + q + 3 < k := by omega
  have i4 : q + j + 1 < o.length := by omega
  have b1 : j + q < 4611686018427387904 := by omega
  have b2 : q + j < 4611686018427387904 := by omega
  have b3 : j < 4611686018427387904 := by omega
  have g1 : (j : Int) < (a.length : Int) := by omega
  have g2 : ((q + j : Nat) : Int) < (o.length : Int) := by omega
  have g3 : ((q + j + 1 : Nat) : Int) < (o.length : Int) := by omega
  have hs' : s ≤ 64 := by omega
  have l0 : 2 ^ s ≤ 18446744073709551616 := h2
  have hz' : ∀ i, q + (j + 1) < i → q + j < i ∧ q + j + 1 ≠ i ∧ q + j ≠ i := fun i hi => by omega
  have hq1 : q + j < q + j + 1 := by omega
  intro hv
  simp only [Z0f.l0]
  rw [if_pos g1, if_pos (zk1 _), if_pos g1, show wrap64 (Int.tdiv (n : Int) 64) = (q : Int) from e1, ZbH b2, Z0d b2, if_pos (zk1 _), if_pos g2, if_pos (zk1 _), Z0d b3]
  simp only [Z06, zk0]
  obtain ⟨p0, p1⟩ := Z01 ha j
  have ew := Z1D p0
  generalize hwn : (a.getD j 0).toNat = w at ew
  have w1 : w < 18446744073709551616 := zki.1 (ew ▸ p1)
  rw [ew, hg, Z7i hs' hc, Z4]
  have l1 := Z5E (w := w) hs' hc
  have e := (Z2P (w := w) (s := s) hs').2
  have key : ∀ d : Nat, d = w / 2 ^ (64 - s) → Z0f.l0 k n ((o.set (q + j) ((w * 2 ^ s % 18446744073709551616 + c : Nat) : Int)).set (q + j + 1) (d : Int)) s a a.length ((j + 1 : Nat) : Int) = some (ofN (18446744073709551616 ^ q * (val a * 2 ^ s))) := by
   intro d hd
   have l2 : d < 2 ^ s := by rw [hd]; exact Z4H hs' w1
   refine ih (j + 1) k _ d i1 i2 i3 (by rw [zk9, zk9]; exact ho) (Z1V (Z1V hw _ (zk1 _) (zki.2 l1)) _ (zk1 _) (zki.2 (zkn l2 h2))) l2 ?_ ?_ ?_
   ·exact Nm.Z2B _ _ _ (by rw [zk9]; exact i4)
   ·intro i hi
    obtain ⟨z1, z2, z3⟩ := hz' i hi
    rw [Nm.Z1p _ _ _ _ z2, Nm.Z1p _ _ _ _ z3]
    exact hz i z1
   rw [← hd] at e
   have := Z05 ((o.set (q + j) ((w * 2 ^ s % 18446744073709551616 + c : Nat) : Int)).set (q + j + 1) (d : Int)) (q + j + 1) (by rw [zk9, zk9]; exact i4)
   rw [Z8z _ _ _ _ i4, Nm.Z2B _ _ _ (by rw [zk9]; exact i4), zk0] at this
   have e3 : q + (j + 1) = q + j + 1 := rfl
   rw [e3]
   rw [← this, ZU a, hwn, zkk, zkb]
   rw [zkb] at hv
   exact Z6m e hv
  by_cases h : (s : Int) > 0
  ·have hs64 : 64 - s ≤ 64 := by omega
   have e64 : wrap64 (64 - (s : Int)) = ((64 - s : Nat) : Int) := by rw [ZL Zo Zo]; omega
   rw [if_pos h, e64, if_pos (zk1 _), if_pos (zk1 _), if_pos g3, Z3e _ _ hs64]
   exact key _ rfl
  have : s = 0 := by omega
  rw [if_neg h]
  have k0 := key 0 (by subst this; rw [zkP (show w < 2 ^ (64 - 0) from w1)])
  have same : ((o.set (q + j) ((w * 2 ^ s % 18446744073709551616 + c : Nat) : Int)).set (q + j + 1) ((0 : Nat) : Int)) = o.set (q + j) ((w * 2 ^ s % 18446744073709551616 + c : Nat) : Int) := by
   have h0 := hz (q + j + 1) hq1
   refine List.ext_getElem (by simp) fun i g1 g2 => ?_
   by_cases hi : i = q + j + 1
   ·subst hi
    rw [List.getElem_set_self, List.getElem_set_ne Zo]
    rw [List.getD_eq_getElem?_getD, List.getElem?_eq_getElem i4] at h0
    exact h0.symm
   rw [List.getElem_set_ne Zo]
  rw [same] at k0
  exact k0
theorem Z9F (a : List Int) (n k : Nat) (ha : Ws a) (hn : n < 4611686018427387904) (na : a.length + n / 64 < 17592186044000) (hk : 3 * a.length + n / 64 + 10 < k) : Z0f.f k a n = some (ofN (val a * 2 ^ n)) := by
 unfold Z0f.f
 have hla : (ofN (val a)).length ≤ a.length := (Z0N _ _).2 (Z1M ha)
 rw [Z2r a k ha Zo Zo, Z4]
 by_cases h : val a = 0
 ·have := Z1f.2 h
  rw [if_pos Zo, h, zkC, Z0e]
 have hl : (ofN (val a)).length ≠ 0 := fun z => h (Z1f.1 z)
 have f1 : n % 64 < 64 := by omega
 have f2 : (ofN (val a)).length + n / 64 < 35184372088000 := by omega
 have f3 : (ofN (val a)).length + (ofN (val a)).length + n / 64 + 3 < k := by omega
 have c1 : (ofN (val a)).length + n / 64 + 1 ≤ 35184372088832 := by omega
 have c2 : ¬ (((ofN (val a)).length : Int) = 0) := by omega
 have b1 : n / 64 + (ofN (val a)).length + 1 < 4611686018427387904 := by omega
 have e1 : Q64 n (n / 64) := by
  unfold Q64
  rw [zkr Zo, ZL Zo Zo]; omega
 have t := ZbI n (ofN (val a)) (ZE _) (n / 64) (n % 64) e1 f1 f2 _ 0 k (List.replicate ((ofN (val a)).length + n / 64 + 1) 0) 0 rfl (zkD _) (by rw [Nat.sub_zero]; exact f3) (by simp) (Z0Y _) (zkh Zd) (by rw [Z3O]; rfl) (fun i _ => Z3O _ _) (by simp [Z2M, val])
 rw [Ze] at t
 have e2 : Int.tmod (n : Int) 64 = ((n % 64 : Nat) : Int) := by
  clear t e1
  rw [zkt Zo]; omega
 have e3 : wrap64 ((wrap64 (((n / 64 : Nat) : Int) + ((ofN (val a)).length : Int))) + 1) = (((ofN (val a)).length + n / 64 + 1 : Nat) : Int) := by
  clear t e1 e2 hn na hk f1 f2 f3 c1 hla
  generalize n / 64 = q at *
  generalize (ofN (val a)).length = m at *
  rw [ZL (x := (q : Int) + (m : Int)) Zo Zo, ZL Zo Zo]; omega
 rw [if_neg c2, show wrap64 (Int.tdiv (n : Int) 64) = ((n / 64 : Nat) : Int) from e1, e2, e3, if_pos (zk1 _), zk0, if_pos c1, Z5F n, zkT]
 exact t
theorem ZbJ (v : Nat) (hl : (ofN v).length < 4503599627370496) (s : Nat) : ∀ (i k : Nat), (ofN v).length - i = s → i ≤ (ofN v).length → s < k → val ((ofN v).take i) = 0 →
  (v = 0 → Z0Q.l0 k (ofN v) (ofN v).length i = some 0) ∧ (∀ t m : Nat, v = 2 ^ t * (2 * m + 1) → Z0Q.l0 k (ofN v) (ofN v).length i = some (t : Int)) := by
 induction s with
 | zero =>
  intro i k hs hi hk hz
  obtain ⟨k, rfl⟩ : ∃ z, k = z + 1 := ⟨k - 1, by omega⟩
  obtain rfl : i = (ofN v).length := by omega
  rw [Zr _ _ (zk6 _), Ze] at hz
  have g : Z0Q.l0 (k + 1) (ofN v) (ofN v).length ((ofN v).length : Nat) = some 0 := by
   simp only [Z0Q.l0]; rw [if_neg Zo]
  refine ⟨fun _ => g, fun t m ht => ?_⟩
  have : 0 < 2 ^ t * (2 * m + 1) := zkz (zkh Zd) Zo
  omega
 | succ s ih =>
  intro i k hs hi hk hz
  obtain ⟨k, rfl⟩ : ∃ z, k = z + 1 := ⟨k - 1, by omega⟩
  have i1 : (ofN v).length - (i + 1) = s := by omega
  have i2 : i + 1 ≤ (ofN v).length := by omega
  have i3 : s < k := by omega
  have g1 : (i : Int) < ((ofN v).length : Int) := by omega
  have b3 : i < 4611686018427387904 := by omega
  have i5 : i < (ofN v).length := by omega
  obtain ⟨p0, p1⟩ := Z01 (ZE v) i
  have ew := Z1D p0
  have ts := Z05 (ofN v) i i5
  have td := Z1O (ofN v) i (zkG i5)
  have vd := Z2S (ofN v) i i5
  rw [hz] at ts td
  rw [Ze, vd] at td
  simp only [Z0Q.l0]
  rw [if_pos g1, if_pos (zk1 _), if_pos g1, Z06]
  generalize hwn : ((ofN v).getD i 0).toNat = w at *
  by_cases h : w = 0
  ·have := ih (i + 1) k i1 i2 i3 (by rw [ts, h]; simp)
   rw [if_pos (by rw [ew, h]; rfl), Z0d b3]
   exact this
  have w1 : w < 18446744073709551616 := zki.1 (ew ▸ p1)
  obtain ⟨s', c, hc⟩ := Z2H w h
  obtain ⟨tz, ts64⟩ := Z8J hc w1
  have e2 : wrap64 (64 * (i : Int)) = ((64 * i : Nat) : Int) := by rw [ZL Zo Zo]; omega
  have e3 : wrap64 (((64 * i : Nat) : Int) + (s' : Int)) = ((64 * i + s' : Nat) : Int) := by clear e2; rw [ZL Zo Zo]; omega
  have hw0 : ¬ (w : Int) = 0 := by clear e2 e3; omega
  rw [ew, if_neg hw0, tz, Z4, e2, e3]
  clear e2 e3
  have hv : v = 2 ^ (64 * i + s') * (2 * (c + 2 ^ (63 - s') * val ((ofN v).drop (i + 1))) + 1) := by
   have eB : (18446744073709551616 : Nat) = 2 ^ s' * (2 * 2 ^ (63 - s')) := by
    have := Z1e (show s' ≤ 64 by omega)
    have e3 : 64 - s' = (63 - s') + 1 := by omega
    rw [e3, zkk, zkl _ 2] at this
    exact this.symm
   have eP : (18446744073709551616 : Nat) ^ i = 2 ^ (64 * i) := by rw [zkK]
   generalize val ((ofN v).drop (i + 1)) = R at *
   have e5 : w + 18446744073709551616 * R = 2 ^ s' * (2 * (c + 2 ^ (63 - s') * R) + 1) := by
    rw [eB, hc, zkc, ← zkp, zkp 2 c, zkc 2]
    congr 1; omega
   rw [zkU, e5, eP, ← zkc, ← zkb] at td
   exact td
  refine ⟨fun z => ?_, fun t m ht => ?_⟩
  ·have : 0 < 2 ^ (64 * i + s') * (2 * (c + 2 ^ (63 - s') * val ((ofN v).drop (i + 1))) + 1) := zkz (zkh Zd) Zo
   omega
  have := Z5i (ht.symm.trans hv)
  rw [this]
theorem Z9G (v k : Nat) (hl : (ofN v).length < 4503599627370496) (hk : (ofN v).length < k) : (v = 0 → Z0Q.f k (ofN v) = some 0) ∧ (∀ t m : Nat, v = 2 ^ t * (2 * m + 1) → Z0Q.f k (ofN v) = some (t : Int)) := by
 unfold Z0Q.f
 exact ZbJ v hl (ofN v).length 0 k Zo (zkD _) hk (by simp [val])
theorem ZbK (A : List Int) (ha : Ws A) (s : Nat) (hs : s < 64) (lost : Bool) (na : A.length < 35184372088832) (r : Nat) : ∀ (j k : Nat) (o : List Int), A.length - j = r → j ≤ A.length → r + A.length + 3 < k → o.length = A.length → Ws o →
  2 ^ s * val (o.take j) + (A.getD 0 0).toNat % 2 ^ s = val (A.take j) + 18446744073709551616 ^ j * ((A.getD j 0).toNat % 2 ^ s) →
  Z0t.l0 k A lost o s A (A.length : Int) j = some (ofN (val A / 2 ^ s), lost) := by
 induction r with
 | zero =>
  intro j k o hr hj hk ho hw hv
  obtain ⟨k, rfl⟩ : ∃ m, k = m + 1 := ⟨k - 1, by omega⟩
  obtain rfl : j = A.length := by omega
  simp only [Z0t.l0]
  rw [if_neg Zo, Z2r _ _ hw Zo Zo, Z4]
  rw [Z2C A A.length Zo, Zr o _ Zo, Zr A _ Zo] at hv
  have h0 : (A.getD 0 0).toNat % 2 ^ s < 2 ^ s := zks _ (zkh Zd)
  have := (Z7c h0 (show 2 ^ s * val o + (A.getD 0 0).toNat % 2 ^ s = val A by rw [hv]; simp)).1
  rw [this]
 | succ r ih =>
  intro j k o hr hj hk ho hw hv
  obtain ⟨k, rfl⟩ : ∃ m, k = m + 1 := ⟨k - 1, by omega⟩
  have i1 : A.length - (j + 1) = r := by omega
  have i2 : j + 1 ≤ A.length := by omega
  have i3 : r + A.length + 3 < k := by omega
  have i4 : j < o.length := by omega
  have g1 : (j : Int) < (A.length : Int) := by omega
  have g3 : (j : Int) < (o.length : Int) := by omega
  have g4 : ((j + 1 : Nat) : Int) < (A.length : Int) ↔ j + 1 < A.length := by omega
  have b3 : j < 4611686018427387904 := by omega
  have hs' : s ≤ 64 := by omega
  have hs6 : 64 - s ≤ 64 := by omega
  have hsp : (s : Int) > 0 ↔ 0 < s := by omega
  have hs1 : -9223372036854775808 ≤ (64 : Int) - (s : Int) := by omega
  have hs2 : (64 : Int) - (s : Int) < 9223372036854775808 := by omega
  have hs3 : (64 : Int) - (s : Int) = ((64 - s : Nat) : Int) := by omega
  have hs0 : ¬ 0 < s → s = 0 := by omega
  have hge : ¬ j + 1 < A.length → A.length ≤ j + 1 := by omega
  simp only [Z0t.l0]
  rw [if_pos g1, if_pos (zk1 _), if_pos g1, if_pos (zk1 _), if_pos g3, Z0d b3, Z4]
  simp only [Z06, zk0]
  obtain ⟨p0, p1⟩ := Z01 ha j
  obtain ⟨p2, p3⟩ := Z01 ha (j + 1)
  have ew := Z1D p0
  have ew' := Z1D p2
  generalize hwn : (A.getD j 0).toNat = w at ew
  generalize hwn' : (A.getD (j + 1) 0).toNat = w' at ew'
  have w1 : w < 18446744073709551616 := zki.1 (ew ▸ p1)
  rw [ew, Z3e _ _ hs', Nm.Z2B _ _ _ i4, List.set_set]
  have key : ∀ v : Nat, v = w / 2 ^ s + 2 ^ (64 - s) * (w' % 2 ^ s) → Z0t.l0 k A lost (o.set j (v : Int)) s A (A.length : Int) ((j + 1 : Nat) : Int) = some (ofN (val A / 2 ^ s), lost) := by
   intro v hv2
   have l1 : v < 18446744073709551616 := by rw [hv2]; exact Z4M hs' w1
   refine ih (j + 1) k _ i1 i2 i3 (by rw [zk9]; exact ho) (Z1V hw _ (zk1 _) (zki.2 l1)) ?_
   rw [Z0S o j _ i4, ZU, hwn', hwn, zk0, zkk]
   rw [hwn] at hv
   exact Z6j (Z1e hs') hv2 hv
  by_cases h : 0 < s
  ·rw [if_pos (hsp.2 h)]
   by_cases g : j + 1 < A.length
   ·rw [if_pos (g4.2 g), if_pos (zk1 _), ZL hs1 hs2, hs3, if_pos (zk1 _), ew', Z8A h hs w1]
    exact key _ rfl
   rw [if_neg (fun x => g (g4.1 x))]
   refine key _ ?_
   rw [Z2C A _ (hge g)] at hwn'
   have : w' = 0 := hwn'.symm
   rw [this]; simp
  have h00 := hs0 h
  rw [if_neg (fun x => h (hsp.1 x))]
  refine key _ ?_
  rw [h00]; simp [Nat.mod_one]
theorem Z6K (t m n : Nat) : (2 ^ t * (2 * m + 1)) % 2 ^ n ≠ 0 ↔ t < n := by
 constructor
 ·intro h
  refine Classical.byContradiction fun g => h ?_
  rw [show t = n + (t - n) by omega, zkb, zkc]
  exact Nat.mul_mod_right _ _
 intro h e
 obtain ⟨c, hc⟩ := Nat.dvd_of_mod_eq_zero e
 rw [show n = t + (1 + (n - t - 1)) by omega, zkb, zkb, zkc] at hc
 have := Nat.eq_of_mul_eq_mul_left (zkh Zd) hc
 rw [Nat.pow_one, zkc] at this
 omega
theorem Zey (a : List Int) (n k : Nat) (ha : Ws a) (hn : n < 4611686018427387904) (na : a.length < 17592186044000) (hk : 3 * a.length + 10 < k) :
  Z0t.f k a n = some (ofN (val a / 2 ^ n), decide (val a % 2 ^ n ≠ 0)) := by
 unfold Z0t.f
 have hl : (ofN (val a)).length ≤ a.length := (Z0N (val a) a.length).2 (Z1M ha)
 rw [Z2r a k ha Zo Zo, Z4]
 generalize hv : val a = v at *
 have wv : Ws (ofN v) := ZE v
 by_cases h0 : v = 0
 ·subst h0
  rw [Z0e, if_pos (show ((([] : List Int).length : Nat) : Int) = 0 from rfl), Nat.zero_div, Nat.zero_mod, Z0e]; rfl
 obtain ⟨t, m, e⟩ := Z2H v h0
 have hne : (ofN v).length ≠ 0 := fun h => h0 (Z1f.1 h)
 have q0 : ¬ ((ofN v).length : Int) = 0 := by omega
 have ql : (ofN v).length < 17592186044000 := by omega
 have qk : 3 * (ofN v).length + 10 < k := by omega
 rw [if_neg q0, ((Z9G v k Zo Zo).2 t m e), Z4]
 have hd : decide ((t : Int) < (n : Int)) = decide (v % 2 ^ n ≠ 0) := by
  rw [decide_eq_decide, e, Z6K]; omega
 rw [hd]
 have e2 : Int.tmod (n : Int) 64 = ((n % 64 : Nat) : Int) := by
  rw [zkt Zo]; omega
 have en : n = 64 * (n / 64) + n % 64 := by omega
 have hs : n % 64 < 64 := by omega
 have e1 : wrap64 (Int.tdiv (n : Int) 64) = ((n / 64 : Nat) : Int) := by
  have a1 : (-9223372036854775808 : Int) ≤ ((n / 64 : Nat) : Int) := by omega
  have a2 : ((n / 64 : Nat) : Int) < 9223372036854775808 := by omega
  rw [zkr (zk1 n)]
  exact ZL a1 a2
 rw [e1, e2]
 generalize n / 64 = q at *
 generalize n % 64 = s at *
 generalize hL : (ofN v).length = L at *
 by_cases h : L ≤ q
 ·have q1 : (q : Int) ≥ (L : Int) := by omega
  rw [if_pos q1]
  have h1 : v < 2 ^ n := by
   have := (Z0N v L).1 (zkg hL)
   refine zkn this ?_
   have e : 18446744073709551616 ^ L = 2 ^ (64 * L) := by rw [zkK]
   rw [e]; exact zkj Zd Zo
  rw [zkP h1, Z0e]
 have c1 : ¬ ((q : Int) ≥ (L : Int)) := by omega
 have c3 : (q : Int) ≤ (L : Int) := by omega
 have hdl : ((ofN v).drop q).length = L - q := by rw [zke, hL]
 have c5 : ((L - q : Nat) : Int).toNat ≤ 35184372088832 := by rw [zk0]; omega
 have c6 : L - q < 35184372088832 := by omega
 have c7 : (L - q) + (L - q) + 3 < k := by omega
 rw [if_neg c1, if_pos (zk1 _), if_pos c3, Z4, zk0, hdl, if_pos (zk1 _), if_pos c5, zk0]
 have hp := (Z5H (q := q) (s := s) wv hs Zo).1
 rw [Ze] at hp
 have := ZbK ((ofN v).drop q) (Z5O wv q) s hs (decide (v % 2 ^ n ≠ 0)) (by rw [hdl]; exact c6) _ 0 k (List.replicate (L - q) 0) rfl (zkD _) (by rw [hdl]; exact c7) (by rw [hdl, List.length_replicate]) (Z0Y _) (by simp [val])
 rw [hdl] at this
 rw [en, hp, ← en]
 exact this
noncomputable def tz (n : Nat) : Nat := if h : n ≠ 0 then Classical.choose (Z2H n h) else 0
theorem Z3m {n t m : Nat} (h : n = 2 ^ t * (2 * m + 1)) : tz n = t := by
 have h0 : n ≠ 0 := by rw [h]; exact Nat.ne_of_gt (zkz (zkh Zd) Zo)
 unfold tz
 rw [dif_pos h0]
 obtain ⟨m', hm⟩ := Classical.choose_spec (Z2H n h0)
 exact Z5i (hm.symm.trans h)
noncomputable def od (n : Nat) : Nat := n / 2 ^ tz n
theorem Z5j {n t m : Nat} (h : n = 2 ^ t * (2 * m + 1)) : od n = 2 * m + 1 := by
 unfold od
 rw [Z3m h, h, Nat.mul_div_cancel_left _ (zkh Zd)]
theorem Z5T (n : Nat) : od n ≤ n := zkI _ _
theorem Z6L (n : Nat) : od n * 2 ^ tz n = n := by
 by_cases h : n = 0
 ·subst h; unfold od; rw [Nat.zero_div, zkC]
 obtain ⟨t, m, e⟩ := Z2H n h
 rw [Z5j e, Z3m e, e, zkl]
theorem Z5U {n : Nat} (h : n ≠ 0) : od n ≠ 0 := fun e => h (by have := Z6L n; rw [e, zkC] at this; exact this.symm)
noncomputable def cf (s : Bool) (n : Nat) (e : Int) : Bool × List Int × Int := if n = 0 then (false, [], 0) else (s, ofN (od n), e + (tz n : Int))
theorem Z1X (s : Bool) (e : Int) : cf s 0 e = (false, [], 0) := by unfold cf; rw [if_pos rfl]
theorem Z2K {n : Nat} (h : n ≠ 0) (s : Bool) (e : Int) : cf s n e = (s, ofN (od n), e + (tz n : Int)) := by unfold cf; rw [if_neg h]
theorem ZbL {n : Nat} (h : n ≠ 0) (j : Nat) : tz (n * 2 ^ j) = tz n + j ∧ od (n * 2 ^ j) = od n := by
 obtain ⟨t, m, e⟩ := Z2H n h
 have e2 : n * 2 ^ j = 2 ^ (t + j) * (2 * m + 1) := by rw [e, zkb, zkX]
 exact ⟨by rw [Z3m e2, Z3m e], by rw [Z5j e2, Z5j e]⟩
theorem ZfB (s : Bool) (n j : Nat) (e : Int) : cf s (n * 2 ^ j) e = cf s n (e + j) := by
 by_cases h : n = 0
 ·subst h; rw [zkC, Z1X, Z1X]
 have h2 : n * 2 ^ j ≠ 0 := Nat.ne_of_gt (zkz (zkJ h) (zkh Zd))
 rw [Z2K h, Z2K h2, (ZbL h j).1, (ZbL h j).2]
 congr 2
 omega
theorem Z6M {n : Nat} (h : n ≠ 0) : tz n < bl n := by
 obtain ⟨t, m, e⟩ := Z2H n h
 rw [Z3m e]; exact Z8L e
theorem Z6N {n m : Nat} (h : (ofN n).length ≤ m) : bl n ≤ 64 * m := by
 rw [Z0D]
 have := (Z0N n m).1 h
 rw [zkK]; exact this
theorem Z4w (n : Nat) : (ofN (od n)).length ≤ (ofN n).length := Z0E (Z5T n)
theorem Z3P (s : Bool) (l : List Int) (e : Int) (k : Nat) (hw : Ws l) (hl : l.length < 17592186044000) (h0 : -1000000000000000000 ≤ e) (h1 : e ≤ 1000000000000000000) (hk : 100000000000000000 ≤ k) : Z1v.f k s l e = some (cf s (val l) e) := by
 unfold Z1v.f
 have hn : (ofN (val l)).length ≤ l.length := (Z0N (val l) l.length).2 (Z1M hw)
 rw [Z2r l k hw Zo Zo, Z4]
 generalize val l = v at *
 by_cases h : v = 0
 ·subst h
  rw [Z0e, Z1X, if_pos (show ((([] : List Int).length : Nat) : Int) = 0 from rfl)]
 obtain ⟨t, m, e1⟩ := Z2H v h
 have hne : (ofN v).length ≠ 0 := fun h' => h (Z1f.1 h')
 have q0 : ¬ ((ofN v).length : Int) = 0 := by omega
 have ht := Z8L e1
 have hb := Z6N hn
 have ht2 : t < 4611686018427387904 := by omega
 rw [if_neg q0, ((Z9G v k Zo Zo).2 t m e1), Z4, Zey _ t k (ZE v) ht2 Zo Zo, Z4, Z2K h, Ze, Z3m e1, ZL Zo Zo]
 unfold od
 rw [Z3m e1]
theorem Z3Q (s : Bool) (l : List Int) (e : Int) (k : Nat) (hw : Ws l) (hl : l.length < 17592186044000) (h0 : -1000000000000000000 ≤ e) (h1 : e ≤ 1000000000000000000) (hk : 100000000000000000 ≤ k) : Z0y.f k s l e = some (cf s (val l) e) := by
 unfold Z0y.f
 have hn : (ofN (val l)).length ≤ l.length := (Z0N (val l) l.length).2 (Z1M hw)
 rw [Z3v l k hw Zo Zo, Z4]
 generalize val l = v at *
 by_cases h : v = 0
 ·subst h
  rw [Z0e, Z1X, if_pos (show ((([] : List Int).length : Nat) : Int) = 0 from rfl)]
 obtain ⟨t, m, e1⟩ := Z2H v h
 have hne : (ofN v).length ≠ 0 := fun h' => h (Z1f.1 h')
 have q0 : ¬ ((ofN v).length : Int) = 0 := by omega
 have ht := Z8L e1
 have hb := Z6N hn
 have ht2 : t < 4611686018427387904 := by omega
 rw [if_neg q0, Zer (ofN v) k (ZE v) (by rw [Ze]; exact e1) ht2 Zo Zo, Z4, Zeg (ofN v) t k (ZE v) Zo Zo Zo, Z4, Z2K h, Ze, Z3m e1, ZL Zo Zo]
 unfold od
 rw [Z3m e1]
def sg (s : Bool) (n : Nat) : Int := if s then -(n : Int) else (n : Int)
def lowE : Int := -4000000
def Vz (z e : Int) : Int := z * 2 ^ (e - lowE).toNat
noncomputable def cz (z e : Int) : Bool × List Int × Int := cf (decide (z < 0)) z.natAbs e
theorem Z2N (s : Bool) : sg s 0 = 0 := by cases s <;> rfl
theorem Z37 (s : Bool) (n : Nat) : (sg s n).natAbs = n := by cases s <;> simp [sg]
theorem ZfC (s : Bool) (n m : Nat) : sg s (n + m) = sg s n + sg s m := by cases s <;> simp [sg] <;> omega
theorem ZbM (s : Bool) {n m : Nat} (h : m ≤ n) : sg s (n - m) = sg s n + sg (!s) m := by cases s <;> simp [sg] <;> omega
theorem ZfD (s : Bool) (n m : Nat) : sg s (n * m) = sg s n * (m : Int) := by cases s <;> simp [sg, Int.neg_mul]
theorem Z4k (j : Nat) : ((2 ^ j : Nat) : Int) = (2 : Int) ^ j := by simp
theorem Z6O (s : Bool) (n j : Nat) : sg s (n * 2 ^ j) = sg s n * 2 ^ j := by rw [ZfD, Z4k]
theorem Z5k (s : Bool) {n : Nat} (h : n ≠ 0) : decide (sg s n < 0) = s := by cases s <;> simp [sg] <;> omega
theorem Zez (z : Int) : sg (decide (z < 0)) z.natAbs = z := by
 unfold sg
 by_cases h : z < 0
 ·rw [if_pos (decide_eq_true h)]; omega
 rw [if_neg (by simpa using h)]; omega
theorem Z5V (s : Bool) (n : Nat) (e : Int) : cf s n e = cz (sg s n) e := by
 unfold cz
 rw [Z37]
 by_cases h : n = 0
 ·subst h; rw [Z1X, Z1X]
 rw [Z5k s h]
theorem Zd9 (j : Nat) : (0 : Int) < 2 ^ j := by rw [← Z4k]; exact zki.2 (zkh Zd)
theorem Z9e (z : Int) (j : Nat) : decide (z * 2 ^ j < 0) = decide (z < 0) := by
 rw [decide_eq_decide]
 have := Zd9 j
 constructor
 ·intro h
  refine Classical.byContradiction fun g => ?_
  have := Int.mul_nonneg (Int.not_lt.1 g) (Int.le_of_lt this)
  omega
 intro h; exact Int.mul_neg_of_neg_of_pos h this
theorem Z8O (z : Int) (j : Nat) (e : Int) : cz (z * 2 ^ j) e = cz z (e + j) := by
 unfold cz
 rw [Z9e, Int.natAbs_mul, ← Z4k, zkQ, ZfB]
theorem Z5W {e : Int} (h : lowE ≤ e) (z : Int) : cz z e = cz (Vz z e) lowE := by
 unfold Vz
 rw [Z8O]
 congr 1
 omega
theorem Z6P {e : Int} (h : lowE ≤ e) (z : Int) (j : Nat) : Vz (z * 2 ^ j) e = Vz z (e + j) := by
 unfold Vz
 rw [show (e + j - lowE).toNat = j + (e - lowE).toNat by omega, Int.pow_add, Int.mul_assoc]
theorem Z3A (e : Int) : Vz 0 e = 0 := Int.zero_mul _
theorem Z6Q (a b e : Int) : Vz (a + b) e = Vz a e + Vz b e := Int.add_mul _ _ _
def vl (s : Bool) (l : List Int) (e : Int) : Int := Vz (sg s (val l)) e
theorem Z81 {e : Int} (h : lowE ≤ e) (s : Bool) (l : List Int) : cf s (val l) e = cz (vl s l e) lowE := by rw [Z5V, Z5W h]; rfl
theorem ZdD {e : Int} (h : lowE ≤ e) (s : Bool) (n : Nat) : vl (cf s n e).1 (cf s n e).2.1 (cf s n e).2.2 = Vz (sg s n) e := by
 by_cases h0 : n = 0
 ·subst h0; rw [Z1X, Z2N, Z3A]; unfold vl; rw [Z2Y, Z2N, Z3A]
 rw [Z2K h0]
 show Vz (sg s (val (ofN (od n)))) (e + (tz n : Int)) = _
 rw [Ze, ← Z6P h, ← Z6O, Z6L]
theorem Z82 (Z : Int) : vl (cz Z lowE).1 (cz Z lowE).2.1 (cz Z lowE).2.2 = Z := by
 unfold cz
 rw [ZdD (Int.le_refl _), Zez]
 unfold Vz; rw [Int.sub_self]; simp
theorem ZaE {v : Nat} : (((ofN v).length : Nat) : Int) = 0 ↔ v = 0 := by rw [← Z1f]; omega
theorem Z51 {a m : Nat} (h : (ofN a).length ≤ m) (j : Nat) : (ofN (a * 2 ^ j)).length ≤ m + j / 64 + 1 := by
 rw [Z0N] at h ⊢
 have e : 18446744073709551616 ^ (m + j / 64 + 1) = 18446744073709551616 ^ m * 2 ^ (64 * (j / 64 + 1)) := by rw [Nat.add_assoc, zkb, zkK]
 rw [e]
 exact zkY h (zkj Zd Zo) (zkh Zd)
theorem Z6o {a b m : Nat} (ha : (ofN a).length ≤ m) (hb : (ofN b).length ≤ m) : (ofN (a + b)).length ≤ m + 1 := Z9d rfl ((Z0N _ _).1 ha) ((Z0N _ _).1 hb)
theorem Z52 (s : Bool) (l : List Int) (e : Int) (k : Nat) (hw : Ws l) (hl : l.length < 17592186044000) (hk : 100000000000000000 ≤ k) : Z2f.f k s l e = some (decide (val l = 0)) := by
 unfold Z2f.f
 rw [Z2r l k hw Zo Zo, Z4]
 congr 1
 rw [zko, decide_eq_true_iff, beq_iff_eq, ZaE]
def Z2p (n : Nat) (e : Int) : Bool := decide (n < big ∧ -32768 ≤ e ∧ e ≤ 32768)
theorem Z2I {n : Nat} {e : Int} : Z2p n e = true ↔ n < big ∧ -32768 ≤ e ∧ e ≤ 32768 := decide_eq_true_iff
theorem ZeA {n : Nat} {e : Int} (h : n < big) (g : e ≥ -32768) : Z2p n e = decide (e ≤ 32768) := by
 rw [zko, Z2I, decide_eq_true_iff]
 exact ⟨fun c => c.2.2, fun c => ⟨h, g, c⟩⟩
theorem Z9H {n : Nat} {e : Int} (h : ¬ (n < big ∧ -32768 ≤ e ∧ e ≤ 32768)) : Z2p n e = false := by
 rw [Bool.eq_false_iff]; exact fun c => h (Z2I.1 c)
theorem Z8P (v : Nat) : (((ofN v).length : Nat) : Int) ≤ 1024 ↔ v < big := by rw [← Z4T]; omega
theorem Z9I (s : Bool) (l : List Int) (e : Int) (k : Nat) (hw : Ws l) (hl : l.length < 17592186044000) (hk : 100000000000000000 ≤ k) : Z2Q.f k s l e = some (Z2p (val l) e) := by
 unfold Z2Q.f
 rw [Z2r l k hw Zo Zo, Z4]
 by_cases h : val l < big
 ·rw [if_pos ((Z8P _).2 h)]
  by_cases g : e ≥ -32768
  ·rw [if_pos g, ZeA h g]
  rw [if_neg g, Z9H (fun c => g c.2.1)]
 rw [if_neg (fun c => h ((Z8P _).1 c))]; rw [Z9H (fun c => h c.1)]
theorem Z3R (s : Bool) (l : List Int) (e : Int) (k : Nat) (hw : Ws l) (hl : l.length < 17592186044000) (hk : 100000000000000000 ≤ k) : ZI.f k s l e = some (Z2p (val l) e) := by
 unfold ZI.f
 rw [Z9I s l e k hw hl hk, Z4]
def Z5X (d : Bool × List Int × Int) : Bool × List Int × Int × Int := if Z2p (val d.2.1) d.2.2 = true then (d.1, d.2.1, d.2.2, 0) else (false, [], 0, 3)
theorem Z9J (s : Bool) (l : List Int) (e : Int) (k : Nat) (hw : Ws l) (hl : l.length < 17592186044000) (hk : 100000000000000000 ≤ k) : Z1L.f k s l e = some (Z5X (s, l, e)) := by
 unfold Z1L.f Z5X
 rw [Z9I s l e k hw hl hk, Z4]
 split <;> rfl
structure Rt (l : List Int) (e : Int) : Prop where
 ws : Ws l
 len : l.length < 17592186044000
 sm : (ofN (val l)).length ≤ 8192
 lo : -1000000 ≤ e
 hi : e ≤ 1000000
theorem Rt.lowE {l : List Int} {e : Int} (h : Rt l e) : Nf.lowE ≤ e := by have := h.lo; unfold Nf.lowE; omega
theorem ZbN (s : Bool) (l : List Int) (e : Int) (k : Nat) (h : Rt l e) (hk : 100000000000000000 ≤ k) : Z3k.f k s l e = some (cf s (val l) e) := by
 unfold Z3k.f
 rw [Z3P s l e k h.ws h.len (by have := h.lo; omega) (by have := h.hi; omega) hk, Z4]
theorem Z9K (s : Bool) (l : List Int) (e : Int) (k : Nat) (h : Rt l e) (hk : 100000000000000000 ≤ k) : Z2a.f k s l e = some (cf s (val l) e) := by
 unfold Z2a.f
 rw [Z3Q s l e k h.ws h.len (by have := h.lo; omega) (by have := h.hi; omega) hk, Z4]
theorem ZdE (a b : Int) : mn a b = min a b := by unfold mn; rw [Int.min_def]; split <;> split <;> omega
theorem Z4l {a E : Int} (h : E ≤ a) (h1 : a - E < 1000000000000) : wrap64 (a - E) = (((a - E).toNat : Nat) : Int) := by
 rw [ZL Zo Zo]; omega
theorem ZaF (s1 s2 : Bool) (a b : Nat) (e1 e2 E : Int) (k : Nat) (hE : E = min e1 e2) (ha : (ofN a).length ≤ 8192) (hb : (ofN b).length ≤ 8192) (l1 : -2000000 ≤ e1) (u1 : e1 ≤ 2000000) (l2 : -2000000 ≤ e2) (u2 : e2 ≤ 2000000) (hk : 100000000000000000 ≤ k) :
  Z19.f k s1 (ofN a) e1 s2 (ofN b) e2 = some (ofN (a * 2 ^ (e1 - E).toNat), ofN (b * 2 ^ (e2 - E).toNat), E) := by
 unfold Z19.f
 have h1 : E ≤ e1 := by omega
 have h2 : E ≤ e2 := by omega
 have h3 : (e1 - E).toNat ≤ 4000000 := by omega
 have h4 : (e2 - E).toNat ≤ 4000000 := by omega
 rw [ZdE, ← hE, Z4l h1 Zo, Z4l h2 Zo]
 generalize (e1 - E).toNat = i at *
 generalize (e2 - E).toNat = j at *
 rw [Z9F (ofN a) i k (ZE a) Zo Zo Zo, Z4, Z9F (ofN b) j k (ZE b) Zo Zo Zo, Z4, Ze, Ze]
theorem Z5l {x y : Nat} : Z2y x y ≥ 0 ↔ y ≤ x := by unfold Z2y; split <;> (try split) <;> omega
theorem ZbO {s1 s2 : Bool} {x y : Nat} {E : Int} (hE : lowE ≤ E) :
  (s1 = s2 → cf s1 (x + y) E = cz (Vz (sg s1 x) E + Vz (sg s2 y) E) lowE) ∧ (s1 ≠ s2 → y ≤ x → cf s1 (x - y) E = cz (Vz (sg s1 x) E + Vz (sg s2 y) E) lowE) ∧ (s1 ≠ s2 → x ≤ y → cf s2 (y - x) E = cz (Vz (sg s1 x) E + Vz (sg s2 y) E) lowE) := by
 refine ⟨?_, ?_, ?_⟩
 ·rintro rfl; rw [Z5V, Z5W hE, ZfC, Z6Q]
 ·intro h g
  have : s2 = !s1 := by cases s1 <;> cases s2 <;> simp_all
  rw [Z5V, Z5W hE, ZbM _ g, Z6Q, this]
 intro h g
 have : s1 = !s2 := by cases s1 <;> cases s2 <;> simp_all
 rw [Z5V, Z5W hE, ZbM _ g, Z6Q, this, Int.add_comm]
theorem Z83 {s : Bool} {o : Nat} {e E : Int} (h : lowE ≤ E) (g : E ≤ e) : Vz (sg s (o * 2 ^ (e - E).toNat)) E = Vz (sg s o) e := by
 rw [Z6O, Z6P h]; congr 1; omega
theorem Z4x {n : Nat} {e : Int} (h : lowE ≤ e) (s : Bool) : Vz (sg s (od n)) (e + (tz n : Int)) = Vz (sg s n) e := by
 rw [← Z6P h, ← Z6O, Z6L]
theorem Z5m {n : Nat} (h : n ≠ 0) (hl : (ofN n).length ≤ 8192) : (tz n : Int) ≤ 600000 := by
 have := Z6M h
 have := Z6N hl
 omega
theorem ZeB (s1 s2 : Bool) (l1 l2 : List Int) (e1 e2 : Int) (k : Nat) (h1 : Rt l1 e1) (h2 : Rt l2 e2) (hk : 200000000000000000 ≤ k) : ZV.f k s1 l1 e1 s2 l2 e2 = some (cz (vl s1 l1 e1 + vl s2 l2 e2) lowE) := by
 unfold ZV.f
 have b1 := h1.lowE
 have b2 := h2.lowE
 have hv1 := h1.sm
 have hv2 := h2.sm
 have d1 := h1.lo; have d2 := h1.hi; have d3 := h2.lo; have d4 := h2.hi
 rw [ZbN s1 l1 e1 k h1 Zo, Z4, ZbN s2 l2 e2 k h2 Zo, Z4]
 have f1 := Z81 b1 s1 l1
 have f2 := Z81 b2 s2 l2
 have v1 : vl s1 l1 e1 = Vz (sg s1 (val l1)) e1 := rfl
 have v2 : vl s2 l2 e2 = Vz (sg s2 (val l2)) e2 := rfl
 generalize val l1 = n1 at *
 generalize val l2 = n2 at *
 by_cases z1 : n1 = 0
 ·have : (cf s1 n1 e1).2.1 = [] := by rw [z1, Z1X]
  rw [this, Z52 _ _ _ k Z2d (by simp) Zo, Z4, if_pos (by rw [Z2Y]; rfl), f2, v1, z1, Z2N, Z3A, Int.zero_add]
 have c1 := Z2K z1 s1 e1
 have o1 := Z5U z1
 rw [c1, Z52 _ _ _ k (ZE _) (by have := Z4w n1; show (ofN (od n1)).length < _; omega) Zo, Z4]
 rw [if_neg (by rw [Ze]; simpa using o1)]
 by_cases z2 : n2 = 0
 ·have : (cf s2 n2 e2).2.1 = [] := by rw [z2, Z1X]
  rw [this, Z52 _ _ _ k Z2d (by simp) Zo, Z4, if_pos (by rw [Z2Y]; rfl), ← c1, f1, v2, z2, Z2N, Z3A, Zka]
 have c2 := Z2K z2 s2 e2
 have o2 := Z5U z2
 rw [c2, Z52 _ _ _ k (ZE _) (by have := Z4w n2; show (ofN (od n2)).length < _; omega) Zo, Z4]
 rw [if_neg (by rw [Ze]; simpa using o2)]
 have t1 := Z5m z1 hv1
 have t2 := Z5m z2 hv2
 have p1 := Z4x b1 s1 (n := n1)
 have p2 := Z4x b2 s2 (n := n2)
 have q1 := Z4w n1
 have q2 := Z4w n2
 show ZV.j0 k s1 (ofN (od n1)) (e1 + (tz n1 : Int)) s2 (ofN (od n2)) (e2 + (tz n2 : Int)) = _
 have g1 : -2000000 ≤ e1 + (tz n1 : Int) ∧ e1 + (tz n1 : Int) ≤ 2000000 := by omega
 have g2 : -2000000 ≤ e2 + (tz n2 : Int) ∧ e2 + (tz n2 : Int) ≤ 2000000 := by omega
 rw [v1, v2, ← p1, ← p2]
 generalize od n1 = x at *
 generalize od n2 = y at *
 generalize e1 + (tz n1 : Int) = a1 at *
 generalize e2 + (tz n2 : Int) = a2 at *
 obtain ⟨k, rfl⟩ : ∃ m, k = m + 1 := ⟨k - 1, by omega⟩
 obtain ⟨E, hE⟩ : ∃ E, E = min a1 a2 := ⟨_, rfl⟩
 simp only [ZV.j0]
 rw [ZaF s1 s2 x y a1 a2 E k hE Zo Zo g1.1 g1.2 g2.1 g2.2 Zo, Z4]
 have lE : lowE ≤ E := by have := g1.1; have := g2.1; unfold lowE; omega
 have bE : -2000000 ≤ E ∧ E ≤ 2000000 := by omega
 have w1 : E ≤ a1 := by omega
 have w2 : E ≤ a2 := by omega
 have y1 : (a1 - E).toNat ≤ 4000000 := by omega
 have y2 : (a2 - E).toNat ≤ 4000000 := by omega
 have L1 := Z51 (zk2 q1 hv1) (a1 - E).toNat
 have L2 := Z51 (zk2 q2 hv2) (a2 - E).toNat
 have S1 := Z83 (s := s1) (o := x) lE w1
 have S2 := Z83 (s := s2) (o := y) lE w2
 have M1 : (ofN (x * 2 ^ (a1 - E).toNat)).length ≤ 100000 := by omega
 have M2 : (ofN (y * 2 ^ (a2 - E).toNat)).length ≤ 100000 := by omega
 generalize x * 2 ^ (a1 - E).toNat = X at *
 generalize y * 2 ^ (a2 - E).toNat = Y at *
 rw [← S1, ← S2]
 obtain ⟨r1, r2, r3⟩ := ZbO (s1 := s1) (s2 := s2) (x := X) (y := Y) lE
 by_cases hs : s1 = s2
 ·rw [if_pos (by rw [beq_iff_eq]; exact hs), Zew _ _ (ZE X) (ZE Y) Zo Zo k Zo, Z4, Ze, Ze]
  have M3 : (ofN (X + Y)).length < 17592186044000 := by
   have := Z6o M1 M2
   omega
  rw [Z3P s1 _ E k (ZE _) M3 Zo Zo Zo, Z4, Ze, r1 hs]
 rw [if_neg (by rw [beq_iff_eq]; exact hs)]
 obtain ⟨k, rfl⟩ : ∃ m, k = m + 1 := ⟨k - 1, by omega⟩
 simp only [ZV.j1]
 rw [Zev _ _ k (ZE X) (ZE Y) Zo Zo Zo, Z4, Ze, Ze]
 by_cases g : Y ≤ X
 ·rw [if_pos (Z5l.2 g), Z9E X Y g k Zo Zo, Z4]
  have M3 : (ofN (X - Y)).length < 17592186044000 := by have := Z0E (Nat.sub_le X Y); omega
  rw [Z3P s1 _ E k (ZE _) M3 Zo Zo Zo, Z4, Ze, r2 hs g]
 have g' : X ≤ Y := by omega
 rw [if_neg (fun c => g (Z5l.1 c)), Z9E Y X g' k Zo Zo, Z4]
 have M3 : (ofN (Y - X)).length < 17592186044000 := by have := Z0E (Nat.sub_le Y X); omega
 rw [Z3P s2 _ E k (ZE _) M3 Zo Zo Zo, Z4, Ze, r3 hs g']
structure Rs (l : List Int) (e : Int) : Prop where
 ws : Ws l
 len : l.length < 17592186044000
 sm : (ofN (val l)).length ≤ 2000
 lo : -200000 ≤ e
 hi : e ≤ 200000
theorem Rs.t {l : List Int} {e : Int} (h : Rs l e) : Rt l e := ⟨h.ws, h.len, by have := h.sm; omega, by have := h.lo; omega, by have := h.hi; omega⟩
theorem Z53 {l : List Int} {e : Int} (hw : Ws l) (hl : l.length < 17592186044000) (h : Z2p (val l) e = true) : Rs l e := by
 obtain ⟨a, b, c⟩ := Z2I.1 h
 exact ⟨hw, hl, by have := Z0X a; omega, by omega, by omega⟩
theorem Z9L (s1 s2 : Bool) (n m : Nat) : sg (s1 != s2) (n * m) = sg s1 n * sg s2 m := by
 cases s1 <;> cases s2 <;> simp [sg, Int.neg_mul, Int.mul_neg]
def Z4y (s1 : Bool) (l1 : List Int) (e1 : Int) (s2 : Bool) (l2 : List Int) (e2 : Int) : Int := Vz (sg s1 (val l1) * sg s2 (val l2)) (e1 + e2)
theorem Z8Q (n m : Nat) : (ofN (n * m)).length ≤ (ofN n).length + (ofN m).length := by
 rw [Z0N, zkb]
 have a := (Z0N n _).1 (zk6 _)
 have b := (Z0N m _).1 (zk6 _)
 exact zkY a (zkG b) (pow_pos _)
theorem Zda {a b : Int} (ha : -1000000 ≤ a) (hb : -1000000 ≤ b) : lowE ≤ a + b := by unfold lowE; omega
theorem ZeC (s1 s2 : Bool) (l1 l2 : List Int) (e1 e2 : Int) (k : Nat) (h1 : Rt l1 e1) (h2 : Rt l2 e2) (hk : 100000000000000000 ≤ k) : Z1T.f k s1 l1 e1 s2 l2 e2 = some (cz (Z4y s1 l1 e1 s2 l2 e2) lowE) := by
 unfold Z1T.f Z4y
 have a1 := h1.sm; have a2 := h2.sm; have b1 := h1.lo; have b2 := h2.lo; have c1 := h1.hi; have c2 := h2.hi; have n1 := h1.len; have n2 := h2.len
 have hm := Z8Q (val l1) (val l2)
 have hp : (ofN (val l1)).length * ((ofN (val l2)).length + 2) ≤ 8192 * 8194 := zkR a1 Zo
 rw [Zex l1 l2 k h1.ws h2.ws n1 n2 Zo Zo, Z4, ZL Zo Zo, Z3P _ _ _ k (ZE _) Zo Zo Zo hk, Z4, Ze, Z5V, Z5W (Zda b1 b2), Z9L]
theorem Zdb (s1 s2 : Bool) (l1 l2 : List Int) (e1 e2 : Int) (k : Nat) (h1 : Rt l1 e1) (h2 : Rt l2 e2) (hk : 200000000000000000 ≤ k) : Zk.f k s1 l1 e1 s2 l2 e2 = some (cz (vl s1 l1 e1 + vl s2 l2 e2) lowE) := by
 unfold Zk.f
 have b1 := h1.lowE
 have b2 := h2.lowE
 have hv1 := h1.sm
 have hv2 := h2.sm
 have d1 := h1.lo; have d2 := h1.hi; have d3 := h2.lo; have d4 := h2.hi
 rw [Z9K s1 l1 e1 k h1 Zo, Z4, Z9K s2 l2 e2 k h2 Zo, Z4]
 have f1 := Z81 b1 s1 l1
 have f2 := Z81 b2 s2 l2
 have v1 : vl s1 l1 e1 = Vz (sg s1 (val l1)) e1 := rfl
 have v2 : vl s2 l2 e2 = Vz (sg s2 (val l2)) e2 := rfl
 generalize val l1 = n1 at *
 generalize val l2 = n2 at *
 by_cases z1 : n1 = 0
 ·have : (cf s1 n1 e1).2.1 = [] := by rw [z1, Z1X]
  rw [this, if_pos (show ((([] : List Int).length : Nat) : Int) = 0 from rfl), f2, v1, z1, Z2N, Z3A, Int.zero_add]
 have c1 := Z2K z1 s1 e1
 have o1 := Z5U z1
 rw [c1, if_neg (show ¬ (((ofN (od n1)).length : Nat) : Int) = 0 from fun c => o1 (ZaE.1 c))]
 obtain ⟨k, rfl⟩ : ∃ m, k = m + 1 := ⟨k - 1, by omega⟩
 show Zk.j0 (k + 1) s1 (ofN (od n1)) (e1 + (tz n1 : Int)) _ _ _ = _
 simp only [Zk.j0]
 by_cases z2 : n2 = 0
 ·have : (cf s2 n2 e2).2.1 = [] := by rw [z2, Z1X]
  rw [this, if_pos (show ((([] : List Int).length : Nat) : Int) = 0 from rfl), ← c1, f1, v2, z2, Z2N, Z3A, Zka]
 have c2 := Z2K z2 s2 e2
 have o2 := Z5U z2
 rw [c2, if_neg (show ¬ (((ofN (od n2)).length : Nat) : Int) = 0 from fun c => o2 (ZaE.1 c))]
 have t1 := Z5m z1 hv1
 have t2 := Z5m z2 hv2
 have p1 := Z4x b1 s1 (n := n1)
 have p2 := Z4x b2 s2 (n := n2)
 have q1 := Z4w n1
 have q2 := Z4w n2
 show Zk.j1 k s1 (ofN (od n1)) (e1 + (tz n1 : Int)) s2 (ofN (od n2)) (e2 + (tz n2 : Int)) = _
 have g1 : -2000000 ≤ e1 + (tz n1 : Int) ∧ e1 + (tz n1 : Int) ≤ 2000000 := by omega
 have g2 : -2000000 ≤ e2 + (tz n2 : Int) ∧ e2 + (tz n2 : Int) ≤ 2000000 := by omega
 rw [v1, v2, ← p1, ← p2]
 generalize od n1 = x at *
 generalize od n2 = y at *
 generalize e1 + (tz n1 : Int) = a1 at *
 generalize e2 + (tz n2 : Int) = a2 at *
 obtain ⟨k, rfl⟩ : ∃ m, k = m + 1 := ⟨k - 1, by omega⟩
 obtain ⟨E, hE⟩ : ∃ E, E = min a1 a2 := ⟨_, rfl⟩
 simp only [Zk.j1]
 have lE : lowE ≤ E := by have := g1.1; have := g2.1; unfold lowE; omega
 have bE : -2000000 ≤ E ∧ E ≤ 2000000 := by omega
 have w1 : E ≤ a1 := by omega
 have w2 : E ≤ a2 := by omega
 have y1 : (a1 - E).toNat ≤ 4000000 := by omega
 have y2 : (a2 - E).toNat ≤ 4000000 := by omega
 have L1 := Z51 (zk2 q1 hv1) (a1 - E).toNat
 have L2 := Z51 (zk2 q2 hv2) (a2 - E).toNat
 have S1 := Z83 (s := s1) (o := x) lE w1
 have S2 := Z83 (s := s2) (o := y) lE w2
 have M1 : (ofN (x * 2 ^ (a1 - E).toNat)).length ≤ 100000 := by omega
 have M2 : (ofN (y * 2 ^ (a2 - E).toNat)).length ≤ 100000 := by omega
 rw [ZdE, ← hE, Z4l w1 Zo, Z4l w2 Zo, Z9r (ofN x) _ k (ZE x) Zo Zo Zo, Z4, Z9r (ofN y) _ k (ZE y) Zo Zo Zo, Z4, Ze, Ze]
 generalize x * 2 ^ (a1 - E).toNat = X at *
 generalize y * 2 ^ (a2 - E).toNat = Y at *
 rw [← S1, ← S2]
 obtain ⟨r1, r2, r3⟩ := ZbO (s1 := s1) (s2 := s2) (x := X) (y := Y) lE
 by_cases hs : s1 = s2
 ·rw [if_pos (by rw [beq_iff_eq]; exact hs), Ze8 _ _ k (ZE X) (ZE Y) Zo Zo Zo, Z4, Ze, Ze]
  have M3 : (ofN (X + Y)).length < 17592186044000 := by
   have := Z6o M1 M2
   omega
  rw [Z3Q s1 _ E k (ZE _) M3 Zo Zo Zo, Z4, Ze, r1 hs]
 rw [if_neg (by rw [beq_iff_eq]; exact hs), Ze9 _ _ k (ZE X) (ZE Y) Zo Zo Zo, Z4, Ze, Ze]
 by_cases g : Y ≤ X
 ·rw [if_pos (Z5l.2 g), Z9q _ _ k (ZE X) (ZE Y) Zo Zo (by rw [Ze, Ze]; exact g) Zo, Z4, Ze, Ze]
  have M3 : (ofN (X - Y)).length < 17592186044000 := by have := Z0E (Nat.sub_le X Y); omega
  rw [Z3Q s1 _ E k (ZE _) M3 Zo Zo Zo, Z4, Ze, r2 hs g]
 have g' : X ≤ Y := by omega
 rw [if_neg (fun c => g (Z5l.1 c)), Z9q _ _ k (ZE Y) (ZE X) Zo Zo (by rw [Ze, Ze]; exact g') Zo, Z4, Ze, Ze]
 have M3 : (ofN (Y - X)).length < 17592186044000 := by have := Z0E (Nat.sub_le Y X); omega
 rw [Z3Q s2 _ E k (ZE _) M3 Zo Zo Zo, Z4, Ze, r3 hs g']
def am (n : Nat) (e : Int) : Nat := n * 2 ^ (e - lowE).toNat
theorem Z5Y (s : Bool) (n : Nat) (e : Int) : Vz (sg s n) e = sg s (am n e) := by unfold Vz am; rw [Z6O]
theorem Z43 {n : Nat} (h : n ≠ 0) (e : Int) : am n e ≠ 0 := Nat.ne_of_gt (zkz (zkJ h) (zkh Zd))
theorem Z6R {n : Nat} (h : n ≠ 0) {e : Int} (g : lowE ≤ e) : (bl (am n e) : Int) = bl n + (e - lowE) := by
 unfold am; rw [Z4s h]; omega
theorem Zgk {n m : Nat} {e f : Int} (hn : n ≠ 0) (hm : m ≠ 0) (he : lowE ≤ e) (hf : lowE ≤ f) (h : e + (bl n : Int) < f + (bl m : Int)) : am n e < am m f := by
 refine Classical.byContradiction fun g => ?_
 have := Z3L (Nat.le_of_not_lt g)
 have a := Z6R hn he
 have b := Z6R hm hf
 omega
theorem Zdc {n : Nat} {e : Int} (h : lowE ≤ e) : am (od n) (e + (tz n : Int)) = am n e := by
 have := Z4x h false (n := n)
 rw [Z5Y, Z5Y] at this
 have := congrArg Int.natAbs this
 rwa [Z37, Z37] at this
theorem Z9M : od 0 = 0 := by unfold od; rw [Nat.zero_div]
structure Wl (l : List Int) : Prop where
 ws : Ws l
 len : l.length < 17592186044000
theorem ZfE : Wl [] := ⟨Z2d, by simp⟩
theorem Z4z {v : Nat} (h : (ofN v).length < 17592186044000) : Wl (ofN v) := ⟨ZE v, h⟩
theorem ZaG (s : Bool) {n : Nat} (e : Int) (h : (ofN n).length < 17592186044000) : Wl (cf s n e).2.1 := by
 by_cases z : n = 0
 ·rw [z, Z1X]; exact ZfE
 rw [Z2K z]; exact Z4z (zkq (Z4w n) h)
theorem ZaH {Z : Int} (e : Int) (h : (ofN Z.natAbs).length < 17592186044000) : Wl (cz Z e).2.1 := ZaG _ _ h
theorem Rs.wl {l : List Int} {e : Int} (h : Rs l e) : Wl l := ⟨h.ws, h.len⟩
theorem Rt.wl {l : List Int} {e : Int} (h : Rt l e) : Wl l := ⟨h.ws, h.len⟩
def bad (c : Int) : Bool × List Int × Int × Int := (false, [], 0, c)
theorem Z8R {n : Nat} {e : Int} (h : (ofN n).length ≤ 16384) (h1 : e ≤ 2000000) : (ofN (am n e)).length ≤ 120000 := by
 refine zk2 (Z51 h _) ?_
 have : (e - lowE).toNat ≤ 6000000 := by unfold lowE; omega
 omega
theorem Z5K (s : Bool) (l : List Int) (e : Int) : (vl s l e).natAbs = am (val l) e := by unfold vl; rw [Z5Y, Z37]
theorem Zdd {s1 s2 : Bool} {l1 l2 : List Int} {e1 e2 : Int} (h1 : Rt l1 e1) (h2 : Rt l2 e2) : (ofN (vl s1 l1 e1 + vl s2 l2 e2).natAbs).length ≤ 120001 := by
 have a := Z8R (n := val l1) (e := e1) (by have := h1.sm; omega) (by have := h1.hi; omega)
 have b := Z8R (n := val l2) (e := e2) (by have := h2.sm; omega) (by have := h2.hi; omega)
 have c : (vl s1 l1 e1 + vl s2 l2 e2).natAbs ≤ am (val l1) e1 + am (val l2) e2 := by
  have := Int.natAbs_add_le (vl s1 l1 e1) (vl s2 l2 e2)
  rwa [Z5K, Z5K] at this
 exact zk2 (Z0E c) (Z6o a b)
theorem Zde {s1 s2 : Bool} {l1 l2 : List Int} {e1 e2 : Int} (h1 : Rt l1 e1) (h2 : Rt l2 e2) : (ofN (Z4y s1 l1 e1 s2 l2 e2).natAbs).length ≤ 120000 := by
 unfold Z4y
 rw [← Z9L, Z5Y, Z37]
 have a := h1.sm; have b := h2.sm; have c := h1.hi; have d := h2.hi
 exact Z8R (zk2 (Z8Q _ _) Zo) Zo
noncomputable def Z7n (Z : Int) (n1 : Nat) (e1 : Int) (n2 : Nat) (e2 : Int) : Bool × List Int × Int × Int := if Z2p n1 e1 = true ∧ Z2p n2 e2 = true then Z5X (cz Z lowE) else bad 2
theorem ZeD (s1 s2 : Bool) (l1 l2 : List Int) (e1 e2 : Int) (k : Nat) (w1 : Wl l1) (w2 : Wl l2) (hk : 200000000000000000 ≤ k) : Z32.f k s1 l1 e1 s2 l2 e2 = some (Z7n (vl s1 l1 e1 + vl s2 l2 e2) (val l1) e1 (val l2) e2) := by
 unfold Z32.f Z7n
 rw [Z3R s1 l1 e1 k w1.ws w1.len Zo, Z4]
 by_cases h1 : Z2p (val l1) e1 = true
 ·rw [if_pos h1, Z3R s2 l2 e2 k w2.ws w2.len Zo, Z4]
  by_cases h2 : Z2p (val l2) e2 = true
  ·have g1 := Z53 w1.ws w1.len h1
   have g2 := Z53 w2.ws w2.len h2
   have c := ZaH lowE (zkq (Zdd (s1 := s1) (s2 := s2) g1.t g2.t) Zd)
   rw [if_pos h2, if_pos ⟨h1, h2⟩, ZeB s1 s2 l1 l2 e1 e2 k g1.t g2.t hk, Z4, Z9J _ _ _ k c.ws c.len Zo, Z4]
  rw [if_neg h2, if_neg (fun c => h2 c.2)]; rfl
 rw [if_neg h1, if_neg (fun c => h1 c.1)]; rfl
theorem ZeE (s1 s2 : Bool) (l1 l2 : List Int) (e1 e2 : Int) (k : Nat) (w1 : Wl l1) (w2 : Wl l2) (hk : 200000000000000000 ≤ k) : Z2G.f k s1 l1 e1 s2 l2 e2 = some (Z7n (Z4y s1 l1 e1 s2 l2 e2) (val l1) e1 (val l2) e2) := by
 unfold Z2G.f Z7n
 rw [Z3R s1 l1 e1 k w1.ws w1.len Zo, Z4]
 by_cases h1 : Z2p (val l1) e1 = true
 ·rw [if_pos h1, Z3R s2 l2 e2 k w2.ws w2.len Zo, Z4]
  by_cases h2 : Z2p (val l2) e2 = true
  ·have g1 := Z53 w1.ws w1.len h1
   have g2 := Z53 w2.ws w2.len h2
   have c := ZaH lowE (zkq (Zde (s1 := s1) (s2 := s2) g1.t g2.t) Zd)
   rw [if_pos h2, if_pos ⟨h1, h2⟩, ZeC s1 s2 l1 l2 e1 e2 k g1.t g2.t Zo, Z4, Z9J _ _ _ k c.ws c.len Zo, Z4]
  rw [if_neg h2, if_neg (fun c => h2 c.2)]; rfl
 rw [if_neg h1, if_neg (fun c => h1 c.1)]; rfl
theorem Zgl (n : Nat) : bl n = bl (od n) + tz n := by
 by_cases h : n = 0
 ·subst h; rw [Z9M, Z2q]; unfold tz; rw [dif_neg (by simp)]
 have := Z4s (Z5U h) (tz n)
 rwa [Z6L] at this
theorem Z2s {v : Nat} (h : v < 18446744073709551616) : (ofN v).length ≤ 1 := (Z0N v 1).2 (by rw [Nat.pow_one]; exact h)
theorem ZbP {d : Bool × List Int × Int} (h : Z2p (val d.2.1) d.2.2 = true) : Z5X d = (d.1, d.2.1, d.2.2, 0) := by unfold Z5X; exact if_pos h
theorem ZbQ (s : Bool) (n : Nat) (e : Int) : val (cf s n e).2.1 = od n := by
 by_cases h : n = 0
 ·rw [h, Z1X, Z9M]; rfl
 rw [Z2K h]; exact Ze _
def Z1b (x : Int) : Bool := decide (9223372036854775808 ≤ x)
noncomputable def Z0c (x : Int) : Bool × List Int × Int × Int :=
 if Nb.ZT x then ((cf (Z1b x) (Nb.Z04 x).toNat (Nb.Z0x x)).1, (cf (Z1b x) (Nb.Z04 x).toNat (Nb.Z0x x)).2.1, (cf (Z1b x) (Nb.Z04 x).toNat (Nb.Z0x x)).2.2, 0) else (false, [], 0, 5)
theorem ZeF {x : Int} (h : Nb.W64 x) : Nb.W64 (x / 4503599627370496) := by
 obtain ⟨a, b⟩ := h; unfold Nb.W64; omega
theorem Zdf {x : Int} (h : Nb.W64 x) : (x / 9223372036854775808 == 1) = Z1b x := by
 obtain ⟨a, b⟩ := h
 unfold Z1b
 rw [zko, beq_iff_eq, decide_eq_true_iff]; omega
theorem Z8S {v : Int} (h0 : 0 ≤ v) (h1 : v < 18446744073709551616) : Ws [v] := Z2c.2 ⟨⟨h0, h1⟩, Z2d⟩
theorem Z7o (v : Int) : val [v] = v.toNat := by rw [Z24, Z2Y, Zk3, zkB]
theorem Z7p (v : Int) : [v].length < 17592186044000 := by show 1 < 17592186044000; omega
theorem Zdg (x : Int) (k : Nat) (hx : Nb.W64 x) (hk : 100000000000000000 ≤ k) : Z3d.f k x = some (Z0c x) := by
 unfold Z3d.f Z0c
 have hb := Nb.Z7Z hx
 have hf := Nb.Zai hx
 have hi := Nb.Z7D hx
 have e0 : wrap64 (Go.bits .and .u64 (x / 4503599627370496) 2047) = Nb.ex x := by
  rw [Nb.Z8q (ZeF hx)]
  exact ZL (by unfold Nb.ex at hb; omega) (by unfold Nb.ex at hb; omega)
 rw [e0, Zdf hx, Nb.Z8r hx]
 have ef : x % 4503599627370496 = Nb.fr x := rfl
 rw [ef]
 by_cases h : Nb.ex x = 2047
 ·rw [if_pos h, if_neg (fun c => by have := hi.1 c; omega)]
 rw [if_neg h, if_pos (hi.2 Zo)]
 by_cases z : Nb.ex x = 0
 ·have m : Nb.Z04 x = Nb.fr x := by unfold Nb.Z04; exact if_pos z
  have p : Nb.Z0x x = -1074 := by unfold Nb.Z0x; exact if_pos z
  rw [if_pos z, Z3P _ _ _ k (Z8S hf.1 Zo) (Z7p _) Zd Zd hk, Z4, Z7o, m, p]; rfl
 have m : Nb.Z04 x = Nb.fr x + 4503599627370496 := by unfold Nb.Z04; exact if_neg z
 have p : Nb.Z0x x = Nb.ex x - 1075 := by unfold Nb.Z0x; exact if_neg z
 rw [if_neg z, Nb.ZcH hf.1 hf.2, ZL Zo Zo, Z3P _ _ _ k (Z8S Zo Zo) (Z7p _) Zo Zo hk, Z4, Z7o, m, p]
theorem Z8T (x : Int) (k : Nat) (hx : Nb.W64 x) (hk : 100000000000000000 ≤ k) : Z0m.f k x = some (Z0c x) := by
 unfold Z0m.f Z0c
 have hb := Nb.Z7Z hx
 have hf := Nb.Zai hx
 rw [Nb.Zaj hx, Z4, Nb.Zbh hx, Z4]
 by_cases h : Nb.ZT x
 ·rw [if_pos (decide_eq_true h), if_pos h]
  by_cases z : Nb.ex x = 0
  ·have m : Nb.Z04 x = Nb.fr x := by unfold Nb.Z04; exact if_pos z
   have p : Nb.Z0x x = -1074 := by unfold Nb.Z0x; exact if_pos z
   have e : Nb.fr x = (((Nb.fr x).toNat : Nat) : Int) := by omega
   have hw : (Nb.fr x).toNat < 18446744073709551616 := by omega
   have hl := Z2s hw
   show (if Nb.ex x > 0 then _ else ((Z1Z.f k (Nb.fr x)).bind _)) = _
   rw [if_neg Zo, e, ZdC _ k hw Zo, Z4, Z3Q _ _ _ k (ZE _) Zo Zo Zo hk, Z4, Ze, m, p]; rfl
  have m : Nb.Z04 x = Nb.fr x + 4503599627370496 := by unfold Nb.Z04; exact if_neg z
  have p : Nb.Z0x x = Nb.ex x - 1075 := by unfold Nb.Z0x; exact if_neg z
  have e : IntKind.u64.wrap (Nb.fr x + 4503599627370496) = (((Nb.fr x + 4503599627370496).toNat : Nat) : Int) := by rw [Z3X Zo Zo]; omega
  have hw : (Nb.fr x + 4503599627370496).toNat < 18446744073709551616 := by omega
  have hl := Z2s hw
  show (if Nb.ex x > 0 then ((Z1Z.f k (IntKind.u64.wrap (Nb.fr x + 4503599627370496))).bind _) else _) = _
  rw [if_pos Zo, e, ZdC _ k hw Zo, Z4]
  show ((Z0y.f k (Z1b x) (ofN (Nb.fr x + 4503599627370496).toNat) (wrap64 (Nb.ex x - 1075))).bind _) = _
  rw [ZL Zo Zo, Z3Q _ _ _ k (ZE _) Zo Zo Zo hk, Z4, Ze, m, p]
 rw [if_neg (by rw [decide_eq_true_iff]; exact h), if_neg h]
def sX (s : Bool) : Int := if s = true then 9223372036854775808 else 0
theorem Zdh {o : Nat} (h0 : o ≠ 0) (h : o < 18446744073709551616) : ofN o = [(o : Int)] := by
 rw [Z3K h0, zkA h, zkP h, Z0e]
theorem Z8U {o : Nat} (h : o ≠ 0) : 2 ^ (bl o - 1) ≤ o ∧ o < 2 ^ bl o ∧ 1 ≤ bl o := by
 have a := Z4c h
 have b := Z2J o
 have c : 1 ≤ bl o := zkJ (Z3W h)
 refine ⟨?_, b, c⟩
 rw [show bl o = bl o - 1 + 1 by omega, zkk] at a
 omega
theorem Z3S {v : Nat} (h : v < 18446744073709551616) : v < big := by
 rw [← Z4T]
 have := Z2s h
 omega
theorem Z4e {x : Int} (hx : Nb.W64 x) : 0 ≤ Nb.ex x ∧ Nb.ex x ≤ 2047 ∧ 0 ≤ Nb.fr x ∧ Nb.fr x < 4503599627370496 ∧ x % 9223372036854775808 = Nb.ex x * 4503599627370496 + Nb.fr x ∧ x = Nb.ex x * 4503599627370496 + Nb.fr x + sX (Z1b x) := by
 obtain ⟨a, b⟩ := hx
 have s : sX (Z1b x) = if 9223372036854775808 ≤ x then 9223372036854775808 else 0 := by
  unfold sX Z1b
  by_cases h : 9223372036854775808 ≤ x
  ·rw [if_pos (decide_eq_true h), if_pos h]
  rw [if_neg (by rw [decide_eq_true_iff]; exact h), if_neg h]
 rw [s]
 unfold Nb.ex Nb.fr
 split <;> omega
theorem Z7q {x : Int} (hx : Nb.W64 x) (h : Nb.ZT x) : vl (Z0c x).1 (Z0c x).2.1 (Z0c x).2.2.1 = sg (Z1b x) (am (Nb.Z04 x).toNat (Nb.Z0x x)) := by
 unfold Z0c
 rw [if_pos h]
 have p := Nb.Z3M hx h
 show vl (cf (Z1b x) (Nb.Z04 x).toNat (Nb.Z0x x)).1 (cf (Z1b x) (Nb.Z04 x).toNat (Nb.Z0x x)).2.1 (cf (Z1b x) (Nb.Z04 x).toNat (Nb.Z0x x)).2.2 = _
 rw [ZdD (by unfold lowE; omega), Z5Y]
theorem Z7L {x : Int} (hx : Nb.W64 x) (h : Nb.ZT x) : Z2p (val (Z0c x).2.1) (Z0c x).2.2.1 = true := by
 unfold Z0c
 rw [if_pos h]
 have p := Nb.Z3M hx h
 have m := Nb.Z3l hx
 show Z2p (val (cf (Z1b x) (Nb.Z04 x).toNat (Nb.Z0x x)).2.1) (cf (Z1b x) (Nb.Z04 x).toNat (Nb.Z0x x)).2.2 = true
 rw [ZbQ]
 refine Z2I.2 ⟨Z3S (zkq (Z5T _) Zo), ?_⟩
 by_cases z : (Nb.Z04 x).toNat = 0
 ·rw [z, Z1X]; exact ⟨by show (-32768 : Int) ≤ 0; omega, by show (0 : Int) ≤ 32768; omega⟩
 rw [Z2K z]
 have t := Z6M z
 have b : bl (Nb.Z04 x).toNat ≤ 53 := Z0D.2 (by show _ < 9007199254740992; omega)
 exact ⟨by show -32768 ≤ Nb.Z0x x + (tz (Nb.Z04 x).toNat : Int); omega, by show Nb.Z0x x + (tz (Nb.Z04 x).toNat : Int) ≤ 32768; omega⟩
theorem ZfF {x y : Int} (hx : Nb.W64 x) (hy : Nb.W64 y) (h : x % 9223372036854775808 = y % 9223372036854775808) : Nb.Z04 x = Nb.Z04 y ∧ Nb.Z0x x = Nb.Z0x y := by
 have e : Nb.ex x = Nb.ex y := by unfold Nb.ex; omega
 have f : Nb.fr x = Nb.fr y := by unfold Nb.fr; omega
 unfold Nb.Z04 Nb.Z0x
 rw [e, f]; exact ⟨rfl, rfl⟩
theorem Z3g {x : Int} (hx : Nb.W64 x) : Nb.Z04 x = 0 ↔ x % 9223372036854775808 = 0 := by
 obtain ⟨a1, a2, a3, a4, a5, a6⟩ := Z4e hx
 unfold Nb.Z04
 by_cases q : Nb.ex x = 0
 ·rw [if_pos q]; omega
 rw [if_neg q]; omega
theorem ZbR {x y : Int} (hx : Nb.W64 x) (hy : Nb.W64 y) (fx : Nb.ZT x) (fy : Nb.ZT y) (h : x % 9223372036854775808 < y % 9223372036854775808) : am (Nb.Z04 x).toNat (Nb.Z0x x) < am (Nb.Z04 y).toNat (Nb.Z0x y) := by
 obtain ⟨a1, a2, a3, a4, a5, a6⟩ := Z4e hx
 obtain ⟨b1, b2, b3, b4, b5, b6⟩ := Z4e hy
 have px := Nb.Z3M hx fx
 have py := Nb.Z3M hy fy
 have mx_ := Nb.Z3l hx
 by_cases e : Nb.ex x = Nb.ex y
 ·have pe : Nb.Z0x x = Nb.Z0x y := by unfold Nb.Z0x; rw [e]
  have mm : Nb.Z04 x < Nb.Z04 y := by
   unfold Nb.Z04; rw [e]; split <;> omega
  unfold am
  rw [pe]
  exact zkx Zo (zkh Zd)
 have lt : Nb.ex x < Nb.ex y := by omega
 have my : Nb.Z04 y = Nb.fr y + 4503599627370496 := by unfold Nb.Z04; exact if_neg Zo
 have ey : Nb.Z0x y = Nb.ex y - 1075 := by unfold Nb.Z0x; exact if_neg Zo
 have hyz : (Nb.Z04 y).toNat ≠ 0 := by omega
 have b2 : bl (Nb.Z04 y).toNat = 53 := Z27 (m := 52) (by show 4503599627370496 ≤ _; omega) (by show _ < 9007199254740992; omega)
 by_cases z : (Nb.Z04 x).toNat = 0
 ·rw [z]
  unfold am
  rw [zkC]
  exact zkz Zo (zkh Zd)
 refine Zgk z hyz (by unfold lowE; omega) (by unfold lowE; omega) ?_
 rw [b2]
 by_cases q : Nb.ex x = 0
 ·have me : Nb.Z04 x = Nb.fr x := by unfold Nb.Z04; exact if_pos q
  have pe : Nb.Z0x x = -1074 := by unfold Nb.Z0x; exact if_pos q
  have b3 : bl (Nb.Z04 x).toNat ≤ 52 := Z0D.2 (by show _ < 4503599627370496; omega)
  omega
 have pe : Nb.Z0x x = Nb.ex x - 1075 := by unfold Nb.Z0x; exact if_neg q
 have b3 : bl (Nb.Z04 x).toNat ≤ 53 := Z0D.2 (by show _ < 9007199254740992; omega)
 omega
theorem ZeG {x y : Int} (hx : Nb.W64 x) (hy : Nb.W64 y) (fx : Nb.ZT x) (fy : Nb.ZT y) : vl (Z0c x).1 (Z0c x).2.1 (Z0c x).2.2.1 < vl (Z0c y).1 (Z0c y).2.1 (Z0c y).2.2.1 ↔ Nb.pl x < Nb.pl y := by
 rw [Z7q hx fx, Z7q hy fy]
 have L := fun h => ZbR hx hy fx fy h
 have G := fun h => ZbR hy hx fy fx h
 have E : x % 9223372036854775808 = y % 9223372036854775808 → am (Nb.Z04 x).toNat (Nb.Z0x x) = am (Nb.Z04 y).toNat (Nb.Z0x y) := fun h => by
  obtain ⟨a, b⟩ := ZfF hx hy h; rw [a, b]
 have zx : am (Nb.Z04 x).toNat (Nb.Z0x x) = 0 ↔ x % 9223372036854775808 = 0 := by
  have m := Nb.Z3l hx
  constructor
  ·intro h
   refine Classical.byContradiction fun c => ?_
   have : (Nb.Z04 x).toNat ≠ 0 := fun d => c ((Z3g hx).1 Zo)
   exact Z43 this _ h
  intro h; rw [(Z3g hx).2 h]; unfold am; exact zkC _
 have zy : am (Nb.Z04 y).toNat (Nb.Z0x y) = 0 ↔ y % 9223372036854775808 = 0 := by
  have m := Nb.Z3l hy
  constructor
  ·intro h
   refine Classical.byContradiction fun c => ?_
   have : (Nb.Z04 y).toNat ≠ 0 := fun d => c ((Z3g hy).1 Zo)
   exact Z43 this _ h
  intro h; rw [(Z3g hy).2 h]; unfold am; exact zkC _
 generalize am (Nb.Z04 x).toNat (Nb.Z0x x) = A at *
 generalize am (Nb.Z04 y).toNat (Nb.Z0x y) = B at *
 obtain ⟨x0, x1⟩ := hx
 obtain ⟨y0, y1⟩ := hy
 have tri : x % 9223372036854775808 < y % 9223372036854775808 ∨ x % 9223372036854775808 = y % 9223372036854775808 ∨ y % 9223372036854775808 < x % 9223372036854775808 := by omega
 have sx : sg (Z1b x) A = if x < 9223372036854775808 then (A : Int) else -(A : Int) := by
  unfold sg Z1b
  by_cases h : x < 9223372036854775808
  ·rw [if_pos h, if_neg (by rw [decide_eq_true_iff]; omega)]
  rw [if_neg h, if_pos (decide_eq_true Zo)]
 have sy : sg (Z1b y) B = if y < 9223372036854775808 then (B : Int) else -(B : Int) := by
  unfold sg Z1b
  by_cases h : y < 9223372036854775808
  ·rw [if_pos h, if_neg (by rw [decide_eq_true_iff]; omega)]
  rw [if_neg h, if_pos (decide_eq_true Zo)]
 rw [sx, sy]
 unfold Nb.pl
 rcases tri with t | t | t
 ·have := L t
  by_cases a : x < 9223372036854775808 <;> by_cases b : y < 9223372036854775808 <;> simp only [a, b, if_true, if_false] <;> omega
 ·have := E t
  by_cases a : x < 9223372036854775808 <;> by_cases b : y < 9223372036854775808 <;> simp only [a, b, if_true, if_false] <;> omega
 have := G t
 by_cases a : x < 9223372036854775808 <;> by_cases b : y < 9223372036854775808 <;> simp only [a, b, if_true, if_false] <;> omega
def rndI (v : Nat) (e E : Int) : Nat := if E ≤ e then v * 2 ^ (e - E).toNat else rnd v (E - e).toNat
def Z5Z (v : Nat) (e E : Int) : Bool := if E ≤ e then false else decide (v % 2 ^ (E - e).toNat ≠ 0)
theorem Z8V {v : Nat} (h : v < 18446744073709551616) : Z29.f (ofN v) = some (v : Int) := by
 unfold Z29.f
 by_cases h0 : v = 0
 ·subst h0; rw [Z0e]; rfl
 rw [Zdh h0 h]; rfl
theorem Z7M {v n m : Nat} (h : bl v ≤ n + m) : v / 2 ^ n < 2 ^ m := by
 rw [zkM (zkh Zd), ← zkb, zkO m n]
 exact zkn (Z2J v) (zkj Zd h)
theorem Z5n {v n m : Nat} (h : bl v + n ≤ m) : v * 2 ^ n < 2 ^ m := by
 by_cases h0 : v = 0
 ·subst h0; rw [zkC]; exact zkh Zd
 have := Z2J (v * 2 ^ n)
 rw [Z4s h0] at this
 exact zkn this (zkj Zd h)
theorem p54 : (2 : Nat) ^ 54 = 18014398509481984 := by decide
theorem ZfG {v n m : Nat} (hn : 1 ≤ n) (h : bl v ≤ n + m) : rnd v n ≤ 2 ^ m := by
 refine Z8o hn ?_
 rw [← zkb, zkO m n]
 exact zkG (zkn (Z2J v) (zkj Zd h))
theorem ZeH {v : Nat} {e E : Int} {m : Nat} (h : (bl v : Int) + e - E ≤ m) : rndI v e E ≤ 2 ^ m := by
 unfold rndI
 split
 ·exact zkG (Z5n Zo)
 exact ZfG Zo Zo
theorem up1 {q : Nat} (h : q < 18014398509481984) : IntKind.u64.wrap ((q : Int) + 1) = ((q + 1 : Nat) : Int) := by rw [IntKind.wrap_u64]; omega
theorem ZdF (v : Nat) (e E : Int) (k : Nat) (hv : v < big) (e0 : -300000 ≤ e) (e1 : e ≤ 300000) (h0 : -300000 ≤ E) (h1 : E ≤ 300000) (hT : (bl v : Int) + e - E ≤ 54) (hk : 100000000 ≤ k) :
  Z1q.f k (ofN v) e E = some (((rndI v e E : Nat) : Int), Z5Z v e E) := by
 have len : (ofN v).length < 17592186044000 := by have := Z0X hv; omega
 have len2 := Z0X hv
 unfold Z1q.f rndI Z5Z
 by_cases c : E ≤ e
 ·have n0 : wrap64 (e - E) = (((e - E).toNat : Nat) : Int) := Z4l c Zo
  rw [if_pos (show e ≥ E from c), if_pos c, if_pos c, n0, Z5I (ofN v) _ k (ZE v) len Zo, Ze, Z4]
  have hb : bl v + (e - E).toNat ≤ 54 := by omega
  generalize (e - E).toNat = n at hb ⊢
  have hs : (Z4u v (n : Int)).1 = ofN (v * 2 ^ n) := by
   unfold Z4u
   rw [if_pos hv, if_neg Zo]
   by_cases z : v = 0
   ·rw [if_pos z, z, zkC, Z0e]
   rw [if_neg z, zk0, if_pos Zo]
  rw [hs, Z8V (by have := Z5n hb; rw [p54] at this; omega), Z4]
 have n0 : wrap64 (E - e) = (((E - e).toNat : Nat) : Int) := Z4l Zo Zo
 rw [if_neg (show ¬ e ≥ E from c), if_neg c, if_neg c, n0]
 have n1 : 1 ≤ (E - e).toNat := by omega
 have hb : bl v ≤ (E - e).toNat + 54 := by omega
 have nl : (E - e).toNat ≤ 600000 := by omega
 generalize (E - e).toNat = n at n1 hb nl ⊢
 have n2 : wrap64 ((n : Int) - 1) = ((n - 1 : Nat) : Int) := by unfold wrap64; omega
 rw [n2, Zbt (ofN v) _ k (ZE v) Zo len Zo, Ze, Z4]
 have hs : Z8B v (n : Int) = (ofN (v / 2 ^ n), decide (v % 2 ^ n ≠ 0), 0) := by
  unfold Z8B
  rw [if_pos hv, if_neg Zo, zk0]
 have hq : v / 2 ^ n < 18014398509481984 := by have := Z7M hb; rw [p54] at this; exact this
 rw [hs]
 show (Z29.f (ofN (v / 2 ^ n))).bind _ = _
 rw [Z8V Zo, Z4, Zfw (ofN v) _ k (ZE v) Zo len Zo, Ze, if_pos hv, if_neg Zo, zk0, Z4]
 obtain ⟨a1, a2, a3⟩ := Zfx (ofN v) k (ZE v) len Zo
 rw [Ze] at a2 a3
 have low : ∃ t : Int, Z1u.f k (ofN v) = some (t, 0) ∧ (v ≠ 0 → (t < ((n - 1 : Nat) : Int) ↔ v % 2 ^ (n - 1) ≠ 0)) := by
  by_cases z : v = 0
  ·exact ⟨0, a2 z, fun c => absurd z c⟩
  obtain ⟨t, m, e⟩ := Z2H v z
  refine ⟨(t : Int), a3 hv t m e, fun _ => ?_⟩
  rw [e, Z6K]; omega
 obtain ⟨t, l1, l2⟩ := low
 rw [l1, Z4]
 show (if decide (v / 2 ^ (n - 1) % 2 = 1) = true then _ else _) = _
 unfold rnd
 by_cases h : v / 2 ^ (n - 1) % 2 = 1
 ·have z : v ≠ 0 := by rintro rfl; rw [Nat.zero_div] at h; exact absurd h Zd
  rw [if_pos (decide_eq_true h)]
  show (if t < ((n - 1 : Nat) : Int) then _ else _) = _
  have w1 : IntKind.u64.wrap (((v / 2 ^ n : Nat) : Int) + 1) = ((v / 2 ^ n + 1 : Nat) : Int) := up1 hq
  by_cases s : v % 2 ^ (n - 1) ≠ 0
  ·rw [if_pos ((l2 z).2 s), if_pos ⟨h, .inl s⟩, w1]
  rw [if_neg (fun c => s ((l2 z).1 c))]
  have ad := Zfv (w := v / 2 ^ n) Zo
  by_cases o : v / 2 ^ n % 2 = 1
  ·rw [if_pos (by rw [ad, o]; rfl), if_pos ⟨h, .inr o⟩, w1]
  rw [if_neg (by rw [ad]; omega), if_neg (fun c => c.2.elim s o), zkB]
 rw [if_neg (by rw [decide_eq_true_iff]; exact h), if_neg (fun c => h c.1), zkB]
theorem Z7r (v : Nat) (e : Int) : Z0n.f (ofN v) e = some (decide (v = 0)) := by
 unfold Z0n.f
 congr 1
 rw [zko, decide_eq_true_iff, beq_iff_eq, ZaE]
def Z1s (v : Nat) (e : Int) : Int := (bl v : Int) + e
theorem ZbS (v : Nat) (e : Int) (k : Nat) (hv : v < big) (e0 : -300000 ≤ e) (e1 : e ≤ 300000) (hk : 100000000 ≤ k) : Z0P.f k (ofN v) e = some (Z1s v e) := by
 have len := Z0X hv
 unfold Z0P.f Z1s
 rw [Z6J (ofN v) k (ZE v) Zo Zo, Ze, if_pos hv, Z4]
 have := Z0O.1 hv
 show some (wrap64 ((bl v : Int) + e)) = _
 rw [show wrap64 ((bl v : Int) + e) = (bl v : Int) + e by unfold wrap64; omega]
def Z1h (v : Nat) (e : Int) : Int := max (Z1s v e - 53) (-1074)
def Z3n : Int := 9218868437227405312
def Z3b (v : Nat) (e : Int) : Int := (Z1h v e + 1074) * 4503599627370496 + (rndI v e (Z1h v e) : Int)
def mbI (v : Nat) (e : Int) : Int := if v = 0 then 0 else if 1024 < Z1s v e then Z3n else if Z1s v e < -1074 then 0 else min Z3n (Z3b v e)
def lsI (v : Nat) (e : Int) : Bool := if v = 0 then false else if 1024 < Z1s v e then true else if Z1s v e < -1074 then true else decide (Z3n ≤ Z3b v e) || Z5Z v e (Z1h v e)
def Z34 (v : Nat) (e : Int) : Bool := if v = 0 then false else if Z1s v e = -1022 then decide (rndI v e (-1075) < 9007199254740992) else decide (Z1s v e < -1022)
theorem Zdi (n : Nat) : decide ((n : Int) < 9007199254740992) = decide (n < 9007199254740992) := by
 rw [zko, decide_eq_true_iff, decide_eq_true_iff]; omega
theorem ZeI (v : Nat) (e : Int) (k : Nat) (hv : v < big) (e0 : -300000 ≤ e) (e1 : e ≤ 300000) (hk : 100000000 ≤ k) : Z1z.f k (ofN v) e = some (Z34 v e) := by
 unfold Z1z.f Z34
 rw [Z7r, Z4]
 by_cases z : v = 0
 ·rw [if_pos (decide_eq_true z), if_pos z]
 rw [if_neg (by rw [decide_eq_true_iff]; exact z), if_neg z, ZbS v e k hv e0 e1 hk, Z4]
 by_cases c : Z1s v e = -1022
 ·rw [if_pos c, if_pos c, c, show wrap64 (-1022 - 53) = -1075 by unfold wrap64; omega, ZdF v e (-1075) k hv e0 e1 Zo Zo (by unfold Z1s at c; omega) hk, Z4]
  exact congrArg some (Zdi _)
 rw [if_neg c, if_neg c]
theorem Z9N {v : Nat} {e : Int} (z : v ≠ 0) : 4503599627370496 ≤ rndI v e (Z1s v e - 53) := by
 have b := Z8U z
 unfold rndI Z1s
 rw [show (4503599627370496 : Nat) = 2 ^ 52 by decide]
 split
 ·have hb : bl v ≤ 53 := by omega
  rw [show (e - ((bl v : Int) + e - 53)).toNat = 53 - bl v by omega]
  refine zk2 ?_ (zka _ b.1)
  rw [← zkb]; exact zkj Zd Zo
 rw [show ((bl v : Int) + e - 53 - e).toNat = bl v - 53 by omega]
 refine Z6z ?_
 rw [← zkb, show 52 + (bl v - 53) = bl v - 1 by omega]
 exact b.1
theorem ZdG {E : Int} {q : Nat} (h0 : -1074 ≤ E) (h1 : E ≤ 971) (q0 : 4503599627370496 ≤ q) (q1 : q ≤ 9007199254740992) :
  IntKind.u64.wrap ((IntKind.u64.wrap ((IntKind.u64.wrap ((IntKind.u64.wrap (wrap64 (E + 1075))) * 4503599627370496)) + (q : Int))) - 4503599627370496) = (E + 1074) * 4503599627370496 + (q : Int) := by
 rw [show wrap64 (E + 1075) = E + 1075 by unfold wrap64; omega, Nb.Z3X (x := E + 1075) Zo Zo, Nb.Z3X (x := (E + 1075) * 4503599627370496) Zo Zo, Nb.Z3X (x := (E + 1075) * 4503599627370496 + q) Zo Zo, Nb.Z3X Zo Zo]
 omega
theorem nj0 (k : Nat) (E q : Int) (l : Bool) : ZS.j0 (k + 1) E q l = if q < 4503599627370496 then some (q, l) else if E > 971 then some (Z3n, true) else some (IntKind.u64.wrap ((IntKind.u64.wrap ((IntKind.u64.wrap ((IntKind.u64.wrap (wrap64 (E + 1075))) * 4503599627370496)) + q)) - 4503599627370496), l) := rfl
theorem ZaI (k : Nat) (E : Int) (q : Nat) (l : Bool) (h0 : -1074 ≤ E) (h1 : E ≤ 300000) (hq : q ≤ 9007199254740992) (hs : q < 4503599627370496 → E = -1074) :
  ZS.j0 (k + 1) (if (q : Int) = 9007199254740992 then E + 1 else E) (if (q : Int) = 9007199254740992 then (q : Int) / 2 else (q : Int)) l = some (min Z3n ((E + 1074) * 4503599627370496 + (q : Int)), decide (Z3n ≤ (E + 1074) * 4503599627370496 + (q : Int)) || l) := by
 rw [nj0]
 unfold Z3n
 by_cases c : (q : Int) = 9007199254740992
 ·rw [if_pos c, if_pos c, c, if_neg Zo]
  by_cases d : E + 1 > 971
  ·rw [if_pos d, Int.min_eq_left Zo, decide_eq_true Zo, Bool.true_or]
  have := ZdG (E := E + 1) (q := 4503599627370496) Zo Zo Zo Zo
  rw [if_neg d, show ((9007199254740992 : Int) / 2) = ((4503599627370496 : Nat) : Int) by decide, this, decide_eq_false Zo, Zkb, Int.min_eq_right Zo]
  congr 2; omega
 rw [if_neg c, if_neg c]
 by_cases s : (q : Int) < 4503599627370496
 ·rw [if_pos s, hs Zo, decide_eq_false Zo, Zkb, Int.min_eq_right Zo]
  congr 2; omega
 rw [if_neg s]
 by_cases d : E > 971
 ·rw [if_pos d, Int.min_eq_left Zo, decide_eq_true Zo, Bool.true_or]
 rw [if_neg d, ZdG h0 Zo Zo hq, decide_eq_false Zo, Zkb, Int.min_eq_right Zo]
theorem ZeJ (k : Nat) (E q : Int) (l : Bool) (h0 : -1074 ≤ E) (h1 : E ≤ 300000) : (if q = 9007199254740992 then ZS.j0 k (wrap64 (E + 1)) (q / 2) l else ZS.j0 k E q l) = ZS.j0 k (if q = 9007199254740992 then E + 1 else E) (if q = 9007199254740992 then q / 2 else q) l := by
 rw [show wrap64 (E + 1) = E + 1 by unfold wrap64; omega]
 split <;> rfl
theorem Zgm (a b : Int) : mx a b = max a b := by
 unfold mx; split <;> omega
theorem ZaJ {v : Nat} {e : Int} (z : v ≠ 0) (h : rndI v e (Z1h v e) < 4503599627370496) : Z1h v e = -1074 := by
 have := Z9N (v := v) (e := e) z
 unfold Z1h at *
 by_cases c : Z1s v e - 53 ≤ -1074
 ·omega
 rw [Int.max_eq_left Zo] at h; omega
theorem ZeK (v : Nat) (e : Int) : rndI v e (Z1h v e) ≤ 9007199254740992 := by
 have := ZeH (v := v) (e := e) (E := Z1h v e) (m := 53) (by unfold Z1h Z1s; omega)
 exact zk2 this Zd
theorem ZaK (v : Nat) (e : Int) (k : Nat) (hv : v < big) (e0 : -200000 ≤ e) (e1 : e ≤ 200000) (hk : 100000000 ≤ k) : ZS.f k (ofN v) e = some (mbI v e, lsI v e) := by
 have hb := Z0O.1 hv
 unfold ZS.f mbI lsI
 rw [ZbS v e k hv Zo Zo hk, Z4, Z7r, Z4]
 by_cases z : v = 0
 ·rw [if_pos (decide_eq_true z), if_pos z, if_pos z]
 rw [if_neg (by rw [decide_eq_true_iff]; exact z), if_neg z, if_neg z]
 by_cases c1 : 1024 < Z1s v e
 ·rw [if_pos c1, if_pos c1, if_pos c1]; rfl
 rw [if_neg c1, if_neg c1, if_neg c1]
 by_cases c2 : Z1s v e < -1074
 ·rw [if_pos c2, if_pos c2, if_pos c2]
 rw [if_neg c2, if_neg c2, if_neg c2, show wrap64 (Z1s v e - 53) = Z1s v e - 53 by unfold wrap64; omega, Zgm]
 show (Z1q.f k (ofN v) e (Z1h v e)).bind _ = _
 have l0 : -1074 ≤ Z1h v e := by unfold Z1h; omega
 have l1 : Z1h v e ≤ 971 := by unfold Z1h; omega
 rw [ZdF v e (Z1h v e) k hv Zo Zo Zo Zo (by unfold Z1h Z1s; omega) hk, Z4]
 have sm := ZaJ (e := e) z
 have le := ZeK v e
 obtain ⟨k, rfl⟩ : ∃ j, k = j + 1 := ⟨k - 1, by omega⟩
 have := ZaI k (Z1h v e) (rndI v e (Z1h v e)) (Z5Z v e (Z1h v e)) l0 Zo le sm
 exact (ZeJ (k + 1) (Z1h v e) _ _ l0 Zo).trans this
def KK : Nat := (-1074 - lowE).toNat
theorem Z3E : (KK : Int) = -1074 - lowE := by unfold KK lowE; omega
theorem ZaL : 2 ≤ KK := by have := Z3E; unfold lowE at this; omega
theorem ZbT (v j : Nat) {n : Nat} (hn : 1 ≤ n) : rnd (v * 2 ^ j) (n + j) = rnd v n := by
 have l := zks v (Z0b n)
 have e := zkF v (2 ^ n)
 have p := Z0b j
 have e2 : v * 2 ^ j = v / 2 ^ n * 2 ^ (n + j) + v % 2 ^ n * 2 ^ j := by
  rw [zkb, ← zkc, ← zkH, zkl (v / 2 ^ n), e]
 have l2 : v % 2 ^ n * 2 ^ j < 2 ^ (n + j) := by
  rw [zkb]; exact zkx l p
 rw [e2, Z6A Zo l2, Z4t v hn]
 congr 1
 have c1 : 2 ^ (n + j) < 2 * (v % 2 ^ n * 2 ^ j) ↔ 2 ^ n < 2 * (v % 2 ^ n) := by
  rw [zkb, ← zkc]; exact Nat.mul_lt_mul_right p
 have c2 : 2 * (v % 2 ^ n * 2 ^ j) = 2 ^ (n + j) ↔ 2 * (v % 2 ^ n) = 2 ^ n := by
  rw [zkb, ← zkc]; exact Nat.mul_right_cancel_iff p
 simp only [c1, c2]
theorem ZbU {v : Nat} {e E : Int} (h : lowE ≤ E) (h2 : E ≤ e) : am v e = v * 2 ^ (e - E).toNat * 2 ^ (E - lowE).toNat := by
 unfold am
 rw [zkc, ← zkb]
 congr 2; omega
theorem Z9O {v : Nat} {e E : Int} (h : lowE ≤ e) (h2 : lowE < E) : rndI v e E = rnd (am v e) (E - lowE).toNat := by
 unfold rndI
 by_cases c : E ≤ e
 ·rw [if_pos c, ZbU (Int.le_of_lt h2) c, Ze4 _ Zo]
 rw [if_neg c, show (E - lowE).toNat = (E - e).toNat + (e - lowE).toNat by omega]
 unfold am
 rw [ZbT _ _ Zo]
theorem Zdj {v : Nat} {e E : Int} (h : lowE ≤ e) (h2 : lowE < E) : Z5Z v e E = decide (am v e % 2 ^ (E - lowE).toNat ≠ 0) := by
 unfold Z5Z
 by_cases c : E ≤ e
 ·rw [if_pos c, ZbU (Int.le_of_lt h2) c, Nat.mul_mod_left]; rfl
 rw [if_neg c, show (E - lowE).toNat = (E - e).toNat + (e - lowE).toNat by omega]
 unfold am
 rw [zkb, Nat.mul_mod_mul_right, zko, decide_eq_true_iff, decide_eq_true_iff]
 have p := Z0b (e - lowE).toNat
 refine not_congr ⟨fun c => by rw [c, zkC], fun c => ?_⟩
 rcases Zk5.1 c with c | c
 ·exact c
 omega
theorem Z84 {v : Nat} {e : Int} (z : v ≠ 0) (h : lowE ≤ e) : shA KK (am v e) = (Z1h v e - lowE).toNat := by
 have b := Z6R z h
 have k := Z3E
 unfold shA Z1h Z1s
 unfold lowE at *
 omega
theorem Z8W {v : Nat} {e : Int} (z : v ≠ 0) (h : lowE ≤ e) (c : Z1s v e < -1074) : am v e < 2 ^ (KK - 1) := by
 rw [← Z0D]
 have b := Z6R z h
 have k := Z3E
 unfold Z1s at c
 unfold lowE at *
 omega
theorem Zdk {A n : Nat} (hn : 1 ≤ n) (h : A < 2 ^ (n - 1)) : rnd A n = 0 := by
 have e : 2 ^ n = 2 ^ (n - 1) * 2 := by rw [← zkk]; congr 1; omega
 have := Z6A (m := 0) (n := n) (r := A) hn Zo
 rw [zkC, zkU, zkU] at this
 rw [this, if_neg Zo]
theorem Z4m (e : Int) : am 0 e = 0 := zkC _
theorem ZaM {v : Nat} {e : Int} (z : v ≠ 0) (h : lowE ≤ e) : ((cdA KK (am v e) : Nat) : Int) = Z3b v e := by
 have k := Z3E
 have l : lowE < Z1h v e := by unfold Z1h; unfold lowE; omega
 unfold cdA Z3b
 rw [Z84 z h, Z9O h l]
 generalize rnd (am v e) (Z1h v e - lowE).toNat = q
 have : (((Z1h v e - lowE).toNat - KK : Nat) : Int) = Z1h v e + 1074 := by
  have : -1074 ≤ Z1h v e := by unfold Z1h; omega
  unfold lowE at *; omega
 omega
theorem Z8X {v : Nat} {e : Int} (z : v ≠ 0) (h : lowE ≤ e) (c : 1024 < Z1s v e) : Z3n ≤ Z3b v e := by
 have := Z9N (e := e) z
 unfold Z3b Z3n
 rw [show Z1h v e = Z1s v e - 53 by unfold Z1h; omega]
 omega
theorem ZbV {v : Nat} {e : Int} (z : v ≠ 0) (h : lowE ≤ e) (c : Z1s v e < -1074) : Z3b v e = 0 := by
 rw [← ZaM z h]
 have s := Z84 z h
 have k := Z3E
 have : Z1h v e = -1074 := by unfold Z1h; omega
 rw [this, ← k, zk0] at s
 unfold cdA
 rw [s, Zdk (by have := ZaL; omega) (Z8W z h c), Nat.sub_self]
 rfl
theorem ZbW : ((INn : Nat) : Int) = Z3n := rfl
theorem Z85 (v : Nat) {e : Int} (h : lowE ≤ e) : mbI v e = ((mbA KK (am v e) : Nat) : Int) := by
 unfold mbI mbA
 by_cases z : v = 0
 ·subst z; rw [if_pos rfl, Z4m, Z5c]; rfl
 rw [if_neg z]
 have cd := ZaM z h
 have i := ZbW
 have c0 : (0 : Int) ≤ Z3n := by decide
 by_cases c1 : 1024 < Z1s v e
 ·have := Z8X z h c1
  rw [if_pos c1]; omega
 rw [if_neg c1]
 by_cases c2 : Z1s v e < -1074
 ·have := ZbV z h c2
  rw [if_pos c2]; omega
 rw [if_neg c2]; omega
theorem ZdH (v : Nat) {e : Int} (h : lowE ≤ e) : lsI v e = true ↔ lsA KK (am v e) := by
 unfold lsI lsA
 by_cases z : v = 0
 ·subst z
  rw [if_pos rfl, Z4m, Z5c, Nat.zero_mod]
  refine ⟨fun c => (by cases c), fun c => ?_⟩
  rcases c with c | c
  ·exact absurd c Zd
  exact absurd rfl c
 rw [if_neg z]
 have cd := ZaM z h
 have i := ZbW
 by_cases c1 : 1024 < Z1s v e
 ·have := Z8X z h c1
  rw [if_pos c1]; exact ⟨fun _ => .inl Zo, fun _ => rfl⟩
 rw [if_neg c1]
 by_cases c2 : Z1s v e < -1074
 ·rw [if_pos c2]
  refine ⟨fun _ => .inr ?_, fun _ => rfl⟩
  have s := Z84 z h
  have k := Z3E
  rw [show Z1h v e = -1074 by unfold Z1h; omega, ← k, zk0] at s
  have a := Z8W z h c2
  have : 2 ^ (KK - 1) ≤ 2 ^ KK := zkj Zd (Nat.sub_le _ _)
  rw [s, zkA (zkn a this)]
  exact Z43 z e
 rw [if_neg c2, Zkd, decide_eq_true_iff, Zdj h (by unfold Z1h; unfold lowE; omega), decide_eq_true_iff, ← Z84 z h]
 exact or_congr Zo Iff.rfl
theorem ZdI (v : Nat) {e : Int} (h : lowE ≤ e) : Z34 v e = true ↔ v ≠ 0 ∧ tyA KK (am v e) := by
 unfold Z34 tyA
 by_cases z : v = 0
 ·subst z
  rw [if_pos rfl]
  exact ⟨fun c => (by cases c), fun c => absurd rfl c.1⟩
 rw [if_neg z]
 have k := Z3E
 have k2 := ZaL
 have kk : (-1075 - lowE).toNat = KK - 1 := by unfold lowE at *; omega
 have b := Z6R z h
 by_cases c : Z1s v e = -1022
 ·rw [if_pos c, decide_eq_true_iff, Z9O h Zd, kk]
  exact ⟨fun d => ⟨z, d⟩, fun d => d.2⟩
 rw [if_neg c, decide_eq_true_iff]
 refine ⟨fun d => ⟨z, ?_⟩, fun d => ?_⟩
 ·refine zkq (Z8o (m := 4503599627370496) Zo ?_) Zd
  rw [← P52, ← zkb]
  refine zkG (Z0D.1 ?_)
  unfold Z1s at d; unfold lowE at *; omega
 refine Classical.byContradiction fun f => ?_
 have g : 9007199254740992 ≤ rnd (am v e) (KK - 1) := by
  refine Z6z ?_
  rw [← P53, ← zkb]
  refine Nat.not_lt.1 fun x => ?_
  rw [← Z0D] at x
  unfold Z1s at *; unfold lowE at *; omega
 omega
end Go.Proofs.YtjnfipkbgmdpaaaGreatDoor.Nf
