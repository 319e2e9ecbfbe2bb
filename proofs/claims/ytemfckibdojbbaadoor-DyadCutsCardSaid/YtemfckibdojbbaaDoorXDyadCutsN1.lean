/- Plain part. -/
import Derived.Test.YtemfckibdojbbaaDoorXDyadCutsN0
import Derived.Test.YtemfckibdojbbaaDoorXDyadCutsP0
import Derived.Test.YtemfckibdojbbaaDoorXDyadCutsP5
import Derived.Test.YtemfckibdojbbaaDoorXDyadCutsP1
import Derived.Test.YtemfckibdojbbaaDoorXDyadCutsP13
import Derived.Test.YtemfckibdojbbaaDoorXDyadCutsP4
import Derived.Test.YtemfckibdojbbaaDoorXDyadCutsP2
import Derived.Test.YtemfckibdojbbaaDoorXDyadCutsP7
import Derived.Test.YtemfckibdojbbaaDoorXDyadCutsP12
import Derived.Test.YtemfckibdojbbaaDoorXDyadCutsP20
import Derived.Test.YtemfckibdojbbaaDoorXDyadCutsP16
import Derived.Test.YtemfckibdojbbaaDoorXDyadCutsP21
import Derived.Test.YtemfckibdojbbaaDoorXDyadCutsP8
import Derived.Test.YtemfckibdojbbaaDoorXDyadCutsP9
import Derived.Test.YtemfckibdojbbaaDoorXDyadCutsP3
import Derived.Test.YtemfckibdojbbaaDoorXDyadCutsP14
import Derived.Test.YtemfckibdojbbaaDoorXDyadCutsP15
import Derived.Test.YtemfckibdojbbaaDoorXDyadCutsP17
import Derived.Test.YtemfckibdojbbaaDoorXDyadCutsP10
import Derived.Test.YtemfckibdojbbaaDoorXDyadCutsP11
import Derived.Test.YtemfckibdojbbaaDoorXDyadCutsP19
import Derived.Test.YtemfckibdojbbaaDoorXDyadCutsP18
import Derived.Test.YtemfckibdojbbaaDoorXDyadCutsP22
import Derived.Test.YtemfckibdojbbaaDoorXDyadCutsP23
import Derived.Laws.StructEq
namespace Go.Proofs.YtemfckibdojbbaaDoor.Nf
open Go.RowKit Go.Proofs.YtemfckibdojbbaaDoor.PAll Go.Proofs.YtemfckibdojbbaaDoorW.PrintWords Go.Proofs.YtemfckibdojbbaaDoorW.PrintLast Go.Proofs.YtemfckibdojbbaaDoorW.PrintMore Go.Proofs.YtemfckibdojbbaaDoor.Nm
set_option linter.unusedVariables false
set_option linter.unusedSimpArgs false
theorem wrap_addl {a b : Nat} (h : a + b < 4611686018427387904) : wrap64 ((a : Int) + (b : Int)) = ((a + b : Nat) : Int) := by rw [wrapS (by omega) (by omega)]; omega
def Q64 (n q : Nat) : Prop := wrap64 (Int.tdiv (n : Int) 64) = (q : Int)
theorem lshl_loop (n : Nat) (a : List Int) (ha : Ws a) (q s : Nat) (e1 : Q64 n q) (hs : s < 64) (na : a.length + q < 35184372088000) (r : Nat) : ∀ (j k : Nat) (o : List Int) (c : Nat), a.length - j = r → j ≤ a.length → r + a.length + q + 3 < k → o.length = a.length + q + 1 → Ws o → c < 2 ^ s → o.getD (q + j) 0 = c → (∀ i, q + j < i → o.getD i 0 = 0) →
  val (o.take (q + j)) + 18446744073709551616 ^ (q + j) * c = 18446744073709551616 ^ q * (val (a.take j) * 2 ^ s) →
  limbs_Shl.l0 k n o s a a.length j = some (ofN (18446744073709551616 ^ q * (val a * 2 ^ s))) := by
 have h2 : 2 ^ s ≤ 18446744073709551616 := by rw [← pow_split (show s ≤ 64 by omega)]; exact Nat.le_mul_of_pos_right _ (Nat.pow_pos (by decide))
 induction r with
 | zero =>
  intro j k o c hr hj hk ho hw hc hg hz hv
  obtain ⟨k, rfl⟩ : ∃ m, k = m + 1 := ⟨k - 1, by omega⟩
  obtain rfl : j = a.length := by omega
  simp only [limbs_Shl.l0]
  rw [if_neg (by omega), trim_eq _ k hw (by omega) (by omega), bind_s]
  have e := val_take_succ o (q + a.length) (by omega)
  rw [hg, Int.toNat_natCast, hv, val_take_ge _ _ (by omega), val_take_ge _ _ (Nat.le_refl _)] at e
  rw [e]
 | succ r ih =>
  intro j k o c hr hj hk ho hw hc hg hz
  obtain ⟨k, rfl⟩ : ∃ m, k = m + 1 := ⟨k - 1, by omega⟩
  have i1 : a.length - (j + 1) = r := by omega
  have i2 : j + 1 ≤ a.length := by omega
  have i3 : r + a.length + q + 3 < k := by omega
  have i4 : q + j + 1 < o.length := by omega
  have b1 : j + q < 4611686018427387904 := by omega
  have b2 : q + j < 4611686018427387904 := by omega
  have b3 : j < 4611686018427387904 := by omega
  have g1 : (j : Int) < (a.length : Int) := by omega
  have g2 : ((q + j : Nat) : Int) < (o.length : Int) := by omega
  have g3 : ((q + j + 1 : Nat) : Int) < (o.length : Int) := by omega
  have hs' : s ≤ 64 := by omega
  have l0 : 2 ^ s ≤ 18446744073709551616 := h2
  have hz' : ∀ i, q + (j + 1) < i → q + j < i ∧ q + j + 1 ≠ i ∧ q + j ≠ i := fun i hi => by omega
  have hq1 : q + j < q + j + 1 := by omega
  intro hv
  simp only [limbs_Shl.l0]
  rw [if_pos g1, if_pos (Int.natCast_nonneg _), if_pos g1, show wrap64 (Int.tdiv (n : Int) 64) = (q : Int) from e1, wrap_addl b2, wrap_succ b2, if_pos (Int.natCast_nonneg _), if_pos g2, if_pos (Int.natCast_nonneg _), wrap_succ b3]
  simp only [rd_nat, Int.toNat_natCast]
  obtain ⟨p0, p1⟩ := ws_get ha j
  have ew := asNat p0
  generalize hwn : (a.getD j 0).toNat = w at ew
  have w1 : w < 18446744073709551616 := Int.ofNat_lt.1 (ew ▸ p1)
  rw [ew, hg, or_shl' hs' hc, bind_s]
  have l1 := or_shl_lt (w := w) hs' hc
  have e := (shl_parts (w := w) (s := s) hs').2
  have key : ∀ d : Nat, d = w / 2 ^ (64 - s) → limbs_Shl.l0 k n ((o.set (q + j) ((w * 2 ^ s % 18446744073709551616 + c : Nat) : Int)).set (q + j + 1) (d : Int)) s a a.length ((j + 1 : Nat) : Int) = some (ofN (18446744073709551616 ^ q * (val a * 2 ^ s))) := by
   intro d hd
   have l2 : d < 2 ^ s := by rw [hd]; exact shr_up_lt hs' w1
   refine ih (j + 1) k _ d i1 i2 i3 (by rw [List.length_set, List.length_set]; exact ho) (ws_set (ws_set hw _ (Int.natCast_nonneg _) (Int.ofNat_lt.2 l1)) _ (Int.natCast_nonneg _) (Int.ofNat_lt.2 (Nat.lt_of_lt_of_le l2 h2))) l2 ?_ ?_ ?_
   ·exact Nm.getD_set_eq _ _ _ (by rw [List.length_set]; exact i4)
   ·intro i hi
    obtain ⟨z1, z2, z3⟩ := hz' i hi
    rw [Nm.getD_set_ne _ _ _ _ z2, Nm.getD_set_ne _ _ _ _ z3]
    exact hz i z1
   rw [← hd] at e
   have := val_take_succ ((o.set (q + j) ((w * 2 ^ s % 18446744073709551616 + c : Nat) : Int)).set (q + j + 1) (d : Int)) (q + j + 1) (by rw [List.length_set, List.length_set]; exact i4)
   rw [val_set2 _ _ _ _ i4, Nm.getD_set_eq _ _ _ (by rw [List.length_set]; exact i4), Int.toNat_natCast] at this
   have e3 : q + (j + 1) = q + j + 1 := rfl
   rw [e3]
   rw [← this, take_succ_getD a, hwn, Nat.pow_succ, Nat.pow_add]
   rw [Nat.pow_add] at hv
   exact shl_step e hv
  by_cases h : (s : Int) > 0
  ·have hs64 : 64 - s ≤ 64 := by omega
   have e64 : wrap64 (64 - (s : Int)) = ((64 - s : Nat) : Int) := by rw [wrapS (by omega) (by omega)]; omega
   rw [if_pos h, e64, if_pos (Int.natCast_nonneg _), if_pos (Int.natCast_nonneg _), if_pos g3, shr_eq _ _ hs64]
   exact key _ rfl
  have : s = 0 := by omega
  rw [if_neg h]
  have k0 := key 0 (by subst this; rw [Nat.div_eq_of_lt (show w < 2 ^ (64 - 0) from w1)])
  have same : ((o.set (q + j) ((w * 2 ^ s % 18446744073709551616 + c : Nat) : Int)).set (q + j + 1) ((0 : Nat) : Int)) = o.set (q + j) ((w * 2 ^ s % 18446744073709551616 + c : Nat) : Int) := by
   have h0 := hz (q + j + 1) hq1
   refine List.ext_getElem (by simp) fun i g1 g2 => ?_
   by_cases hi : i = q + j + 1
   ·subst hi
    rw [List.getElem_set_self, List.getElem_set_ne (by omega)]
    rw [List.getD_eq_getElem?_getD, List.getElem?_eq_getElem i4] at h0
    exact h0.symm
   rw [List.getElem_set_ne (by omega)]
  rw [same] at k0
  exact k0
theorem lShl_eq (a : List Int) (n k : Nat) (ha : Ws a) (hn : n < 4611686018427387904) (na : a.length + n / 64 < 17592186044000) (hk : 3 * a.length + n / 64 + 10 < k) : limbs_Shl.f k a n = some (ofN (val a * 2 ^ n)) := by
 unfold limbs_Shl.f
 have hla : (ofN (val a)).length ≤ a.length := (ofN_len _ _).2 (val_lt ha)
 rw [trim_eq a k ha (by omega) (by omega), bind_s]
 by_cases h : val a = 0
 ·have := ofN_zero_iff.2 h
  rw [if_pos (by omega), h, Nat.zero_mul, ofN_zero]
 have hl : (ofN (val a)).length ≠ 0 := fun z => h (ofN_zero_iff.1 z)
 have f1 : n % 64 < 64 := by omega
 have f2 : (ofN (val a)).length + n / 64 < 35184372088000 := by omega
 have f3 : (ofN (val a)).length + (ofN (val a)).length + n / 64 + 3 < k := by omega
 have c1 : (ofN (val a)).length + n / 64 + 1 ≤ 35184372088832 := by omega
 have c2 : ¬ (((ofN (val a)).length : Int) = 0) := by omega
 have b1 : n / 64 + (ofN (val a)).length + 1 < 4611686018427387904 := by omega
 have e1 : Q64 n (n / 64) := by
  unfold Q64
  rw [Int.tdiv_eq_ediv_of_nonneg (by omega), wrapS (by omega) (by omega)]; omega
 have t := lshl_loop n (ofN (val a)) (ws_ofN _) (n / 64) (n % 64) e1 f1 f2 _ 0 k (List.replicate ((ofN (val a)).length + n / 64 + 1) 0) 0 rfl (Nat.zero_le _) (by rw [Nat.sub_zero]; exact f3) (by simp) (ws_replicate _) (Nat.pow_pos (by decide)) (by rw [getD_rep]; rfl) (fun i _ => getD_rep _ _) (by simp [val_replicate, val])
 rw [val_ofN] at t
 have e2 : Int.tmod (n : Int) 64 = ((n % 64 : Nat) : Int) := by
  clear t e1
  rw [Int.tmod_eq_emod_of_nonneg (by omega)]; omega
 have e3 : wrap64 ((wrap64 (((n / 64 : Nat) : Int) + ((ofN (val a)).length : Int))) + 1) = (((ofN (val a)).length + n / 64 + 1 : Nat) : Int) := by
  clear t e1 e2 hn na hk f1 f2 f3 c1 hla
  generalize n / 64 = q at *
  generalize (ofN (val a)).length = m at *
  rw [wrapS (x := (q : Int) + (m : Int)) (by omega) (by omega), wrapS (by omega) (by omega)]; omega
 rw [if_neg c2, show wrap64 (Int.tdiv (n : Int) 64) = ((n / 64 : Nat) : Int) from e1, e2, e3, if_pos (Int.natCast_nonneg _), Int.toNat_natCast, if_pos c1, pow_parts n, Nat.mul_left_comm]
 exact t
end Go.Proofs.YtemfckibdojbbaaDoor.Nf

namespace Go.Proofs.YtemfckibdojbbaaDoor.Nf
open Go.RowKit Go.Proofs.YtemfckibdojbbaaDoor.PAll Go.Proofs.YtemfckibdojbbaaDoorW.PrintWords Go.Proofs.YtemfckibdojbbaaDoorW.PrintLast Go.Proofs.YtemfckibdojbbaaDoorW.PrintMore Go.Proofs.YtemfckibdojbbaaDoor.Nm
set_option linter.unusedVariables false
set_option linter.unusedSimpArgs false
theorem llow_loop (v : Nat) (hl : (ofN v).length < 4503599627370496) (s : Nat) : ∀ (i k : Nat), (ofN v).length - i = s → i ≤ (ofN v).length → s < k → val ((ofN v).take i) = 0 →
  (v = 0 → limbs_Low.l0 k (ofN v) (ofN v).length i = some 0) ∧ (∀ t m : Nat, v = 2 ^ t * (2 * m + 1) → limbs_Low.l0 k (ofN v) (ofN v).length i = some (t : Int)) := by
 induction s with
 | zero =>
  intro i k hs hi hk hz
  obtain ⟨k, rfl⟩ : ∃ z, k = z + 1 := ⟨k - 1, by omega⟩
  obtain rfl : i = (ofN v).length := by omega
  rw [val_take_ge _ _ (Nat.le_refl _), val_ofN] at hz
  have g : limbs_Low.l0 (k + 1) (ofN v) (ofN v).length ((ofN v).length : Nat) = some 0 := by
   simp only [limbs_Low.l0]; rw [if_neg (by omega)]
  refine ⟨fun _ => g, fun t m ht => ?_⟩
  have : 0 < 2 ^ t * (2 * m + 1) := Nat.mul_pos (Nat.pow_pos (by decide)) (by omega)
  omega
 | succ s ih =>
  intro i k hs hi hk hz
  obtain ⟨k, rfl⟩ : ∃ z, k = z + 1 := ⟨k - 1, by omega⟩
  have i1 : (ofN v).length - (i + 1) = s := by omega
  have i2 : i + 1 ≤ (ofN v).length := by omega
  have i3 : s < k := by omega
  have g1 : (i : Int) < ((ofN v).length : Int) := by omega
  have b3 : i < 4611686018427387904 := by omega
  have i5 : i < (ofN v).length := by omega
  obtain ⟨p0, p1⟩ := ws_get (ws_ofN v) i
  have ew := asNat p0
  have ts := val_take_succ (ofN v) i i5
  have td := val_take_drop (ofN v) i (Nat.le_of_lt i5)
  have vd := val_drop (ofN v) i i5
  rw [hz] at ts td
  rw [val_ofN, vd] at td
  simp only [limbs_Low.l0]
  rw [if_pos g1, if_pos (Int.natCast_nonneg _), if_pos g1, rd_nat]
  generalize hwn : ((ofN v).getD i 0).toNat = w at *
  by_cases h : w = 0
  ·have := ih (i + 1) k i1 i2 i3 (by rw [ts, h]; simp)
   rw [if_pos (by rw [ew, h]; rfl), wrap_succ b3]
   exact this
  have w1 : w < 18446744073709551616 := Int.ofNat_lt.1 (ew ▸ p1)
  obtain ⟨s', c, hc⟩ := low_form w h
  obtain ⟨tz, ts64⟩ := Trail_eq hc w1
  have e2 : wrap64 (64 * (i : Int)) = ((64 * i : Nat) : Int) := by rw [wrapS (by omega) (by omega)]; omega
  have e3 : wrap64 (((64 * i : Nat) : Int) + (s' : Int)) = ((64 * i + s' : Nat) : Int) := by clear e2; rw [wrapS (by omega) (by omega)]; omega
  have hw0 : ¬ (w : Int) = 0 := by clear e2 e3; omega
  rw [ew, if_neg hw0, tz, bind_s, e2, e3]
  clear e2 e3
  have hv : v = 2 ^ (64 * i + s') * (2 * (c + 2 ^ (63 - s') * val ((ofN v).drop (i + 1))) + 1) := by
   have eB : (18446744073709551616 : Nat) = 2 ^ s' * (2 * 2 ^ (63 - s')) := by
    have := pow_split (show s' ≤ 64 by omega)
    have e3 : 64 - s' = (63 - s') + 1 := by omega
    rw [e3, Nat.pow_succ, Nat.mul_comm _ 2] at this
    exact this.symm
   have eP : (18446744073709551616 : Nat) ^ i = 2 ^ (64 * i) := by rw [Nat.pow_mul]
   generalize val ((ofN v).drop (i + 1)) = R at *
   have e5 : w + 18446744073709551616 * R = 2 ^ s' * (2 * (c + 2 ^ (63 - s') * R) + 1) := by
    rw [eB, hc, Nat.mul_assoc, ← Nat.mul_add, Nat.mul_add 2 c, Nat.mul_assoc 2]
    congr 1; omega
   rw [Nat.zero_add, e5, eP, ← Nat.mul_assoc, ← Nat.pow_add] at td
   exact td
  refine ⟨fun z => ?_, fun t m ht => ?_⟩
  ·have : 0 < 2 ^ (64 * i + s') * (2 * (c + 2 ^ (63 - s') * val ((ofN v).drop (i + 1))) + 1) := Nat.mul_pos (Nat.pow_pos (by decide)) (by omega)
   omega
  have := low_unique (ht.symm.trans hv)
  rw [this]
theorem lLow_eq (v k : Nat) (hl : (ofN v).length < 4503599627370496) (hk : (ofN v).length < k) : (v = 0 → limbs_Low.f k (ofN v) = some 0) ∧ (∀ t m : Nat, v = 2 ^ t * (2 * m + 1) → limbs_Low.f k (ofN v) = some (t : Int)) := by
 unfold limbs_Low.f
 exact llow_loop v hl (ofN v).length 0 k (by omega) (Nat.zero_le _) hk (by simp [val])
end Go.Proofs.YtemfckibdojbbaaDoor.Nf

namespace Go.Proofs.YtemfckibdojbbaaDoor.Nf
open Go.RowKit Go.Proofs.YtemfckibdojbbaaDoor.PAll Go.Proofs.YtemfckibdojbbaaDoorW.PrintWords Go.Proofs.YtemfckibdojbbaaDoorW.PrintLast Go.Proofs.YtemfckibdojbbaaDoorW.PrintMore Go.Proofs.YtemfckibdojbbaaDoor.Nm
set_option linter.unusedVariables false
set_option linter.unusedSimpArgs false
theorem lshr_loop (A : List Int) (ha : Ws A) (s : Nat) (hs : s < 64) (lost : Bool) (na : A.length < 35184372088832) (r : Nat) : ∀ (j k : Nat) (o : List Int), A.length - j = r → j ≤ A.length → r + A.length + 3 < k → o.length = A.length → Ws o →
  2 ^ s * val (o.take j) + (A.getD 0 0).toNat % 2 ^ s = val (A.take j) + 18446744073709551616 ^ j * ((A.getD j 0).toNat % 2 ^ s) →
  limbs_Shr.l0 k A lost o s A (A.length : Int) j = some (ofN (val A / 2 ^ s), lost) := by
 induction r with
 | zero =>
  intro j k o hr hj hk ho hw hv
  obtain ⟨k, rfl⟩ : ∃ m, k = m + 1 := ⟨k - 1, by omega⟩
  obtain rfl : j = A.length := by omega
  simp only [limbs_Shr.l0]
  rw [if_neg (by omega), trim_eq _ _ hw (by omega) (by omega), bind_s]
  rw [getD_ge A A.length (by omega), val_take_ge o _ (by omega), val_take_ge A _ (by omega)] at hv
  have h0 : (A.getD 0 0).toNat % 2 ^ s < 2 ^ s := Nat.mod_lt _ (Nat.pow_pos (by decide))
  have := (shr_end h0 (show 2 ^ s * val o + (A.getD 0 0).toNat % 2 ^ s = val A by rw [hv]; simp)).1
  rw [this]
 | succ r ih =>
  intro j k o hr hj hk ho hw hv
  obtain ⟨k, rfl⟩ : ∃ m, k = m + 1 := ⟨k - 1, by omega⟩
  have i1 : A.length - (j + 1) = r := by omega
  have i2 : j + 1 ≤ A.length := by omega
  have i3 : r + A.length + 3 < k := by omega
  have i4 : j < o.length := by omega
  have g1 : (j : Int) < (A.length : Int) := by omega
  have g3 : (j : Int) < (o.length : Int) := by omega
  have g4 : ((j + 1 : Nat) : Int) < (A.length : Int) ↔ j + 1 < A.length := by omega
  have b3 : j < 4611686018427387904 := by omega
  have hs' : s ≤ 64 := by omega
  have hs6 : 64 - s ≤ 64 := by omega
  have hsp : (s : Int) > 0 ↔ 0 < s := by omega
  have hs1 : -9223372036854775808 ≤ (64 : Int) - (s : Int) := by omega
  have hs2 : (64 : Int) - (s : Int) < 9223372036854775808 := by omega
  have hs3 : (64 : Int) - (s : Int) = ((64 - s : Nat) : Int) := by omega
  have hs0 : ¬ 0 < s → s = 0 := by omega
  have hge : ¬ j + 1 < A.length → A.length ≤ j + 1 := by omega
  simp only [limbs_Shr.l0]
  rw [if_pos g1, if_pos (Int.natCast_nonneg _), if_pos g1, if_pos (Int.natCast_nonneg _), if_pos g3, wrap_succ b3, bind_s]
  simp only [rd_nat, Int.toNat_natCast]
  obtain ⟨p0, p1⟩ := ws_get ha j
  obtain ⟨p2, p3⟩ := ws_get ha (j + 1)
  have ew := asNat p0
  have ew' := asNat p2
  generalize hwn : (A.getD j 0).toNat = w at ew
  generalize hwn' : (A.getD (j + 1) 0).toNat = w' at ew'
  have w1 : w < 18446744073709551616 := Int.ofNat_lt.1 (ew ▸ p1)
  rw [ew, shr_eq _ _ hs', Nm.getD_set_eq _ _ _ i4, List.set_set]
  have key : ∀ v : Nat, v = w / 2 ^ s + 2 ^ (64 - s) * (w' % 2 ^ s) → limbs_Shr.l0 k A lost (o.set j (v : Int)) s A (A.length : Int) ((j + 1 : Nat) : Int) = some (ofN (val A / 2 ^ s), lost) := by
   intro v hv2
   have l1 : v < 18446744073709551616 := by rw [hv2]; exact shr_word_lt hs' w1
   refine ih (j + 1) k _ i1 i2 i3 (by rw [List.length_set]; exact ho) (ws_set hw _ (Int.natCast_nonneg _) (Int.ofNat_lt.2 l1)) ?_
   rw [val_set_take o j _ i4, take_succ_getD, hwn', hwn, Int.toNat_natCast, Nat.pow_succ]
   rw [hwn] at hv
   exact shr_step (pow_split hs') hv2 hv
  by_cases h : 0 < s
  ·rw [if_pos (hsp.2 h)]
   by_cases g : j + 1 < A.length
   ·rw [if_pos (g4.2 g), if_pos (Int.natCast_nonneg _), wrapS hs1 hs2, hs3, if_pos (Int.natCast_nonneg _), ew', or_shr h hs w1]
    exact key _ rfl
   rw [if_neg (fun x => g (g4.1 x))]
   refine key _ ?_
   rw [getD_ge A _ (hge g)] at hwn'
   have : w' = 0 := hwn'.symm
   rw [this]; simp
  have h00 := hs0 h
  rw [if_neg (fun x => h (hsp.1 x))]
  refine key _ ?_
  rw [h00]; simp [Nat.mod_one]
theorem low_mod_ne (t m n : Nat) : (2 ^ t * (2 * m + 1)) % 2 ^ n ≠ 0 ↔ t < n := by
 constructor
 ·intro h
  refine Classical.byContradiction fun g => h ?_
  rw [show t = n + (t - n) by omega, Nat.pow_add, Nat.mul_assoc]
  exact Nat.mul_mod_right _ _
 intro h e
 obtain ⟨c, hc⟩ := Nat.dvd_of_mod_eq_zero e
 rw [show n = t + (1 + (n - t - 1)) by omega, Nat.pow_add, Nat.pow_add, Nat.mul_assoc] at hc
 have := Nat.eq_of_mul_eq_mul_left (Nat.pow_pos (by decide)) hc
 rw [Nat.pow_one, Nat.mul_assoc] at this
 omega
theorem lShr_eq (a : List Int) (n k : Nat) (ha : Ws a) (hn : n < 4611686018427387904) (na : a.length < 17592186044000) (hk : 3 * a.length + 10 < k) :
  limbs_Shr.f k a n = some (ofN (val a / 2 ^ n), decide (val a % 2 ^ n ≠ 0)) := by
 unfold limbs_Shr.f
 have hl : (ofN (val a)).length ≤ a.length := (ofN_len (val a) a.length).2 (val_lt ha)
 rw [trim_eq a k ha (by omega) (by omega), bind_s]
 generalize hv : val a = v at *
 have wv : Ws (ofN v) := ws_ofN v
 by_cases h0 : v = 0
 ·subst h0
  rw [ofN_zero, if_pos (show ((([] : List Int).length : Nat) : Int) = 0 from rfl), Nat.zero_div, Nat.zero_mod, ofN_zero]; rfl
 obtain ⟨t, m, e⟩ := low_form v h0
 have hne : (ofN v).length ≠ 0 := fun h => h0 (ofN_zero_iff.1 h)
 have q0 : ¬ ((ofN v).length : Int) = 0 := by omega
 have ql : (ofN v).length < 17592186044000 := by omega
 have qk : 3 * (ofN v).length + 10 < k := by omega
 rw [if_neg q0, ((lLow_eq v k (by omega) (by omega)).2 t m e), bind_s]
 have hd : decide ((t : Int) < (n : Int)) = decide (v % 2 ^ n ≠ 0) := by
  rw [decide_eq_decide, e, low_mod_ne]; omega
 rw [hd]
 have e2 : Int.tmod (n : Int) 64 = ((n % 64 : Nat) : Int) := by
  rw [Int.tmod_eq_emod_of_nonneg (by omega)]; omega
 have en : n = 64 * (n / 64) + n % 64 := by omega
 have hs : n % 64 < 64 := by omega
 have e1 : wrap64 (Int.tdiv (n : Int) 64) = ((n / 64 : Nat) : Int) := by
  have a1 : (-9223372036854775808 : Int) ≤ ((n / 64 : Nat) : Int) := by omega
  have a2 : ((n / 64 : Nat) : Int) < 9223372036854775808 := by omega
  rw [Int.tdiv_eq_ediv_of_nonneg (Int.natCast_nonneg n)]
  exact wrapS a1 a2
 rw [e1, e2]
 generalize n / 64 = q at *
 generalize n % 64 = s at *
 generalize hL : (ofN v).length = L at *
 by_cases h : L ≤ q
 ·have q1 : (q : Int) ≥ (L : Int) := by omega
  rw [if_pos q1]
  have h1 : v < 2 ^ n := by
   have := (ofN_len v L).1 (Nat.le_of_eq hL)
   refine Nat.lt_of_lt_of_le this ?_
   have e : 18446744073709551616 ^ L = 2 ^ (64 * L) := by rw [Nat.pow_mul]
   rw [e]; exact Nat.pow_le_pow_right (by decide) (by omega)
  rw [Nat.div_eq_of_lt h1, ofN_zero]
 have c1 : ¬ ((q : Int) ≥ (L : Int)) := by omega
 have c3 : (q : Int) ≤ (L : Int) := by omega
 have hdl : ((ofN v).drop q).length = L - q := by rw [List.length_drop, hL]
 have c5 : ((L - q : Nat) : Int).toNat ≤ 35184372088832 := by rw [Int.toNat_natCast]; omega
 have c6 : L - q < 35184372088832 := by omega
 have c7 : (L - q) + (L - q) + 3 < k := by omega
 rw [if_neg c1, if_pos (Int.natCast_nonneg _), if_pos c3, bind_s, Int.toNat_natCast, hdl, if_pos (Int.natCast_nonneg _), if_pos c5, Int.toNat_natCast]
 have hp := (shr_parts (q := q) (s := s) wv hs (by omega)).1
 rw [val_ofN] at hp
 have := lshr_loop ((ofN v).drop q) (ws_drop wv q) s hs (decide (v % 2 ^ n ≠ 0)) (by rw [hdl]; exact c6) _ 0 k (List.replicate (L - q) 0) rfl (Nat.zero_le _) (by rw [hdl]; exact c7) (by rw [hdl, List.length_replicate]) (ws_replicate _) (by simp [val])
 rw [hdl] at this
 rw [en, hp, ← en]
 exact this
end Go.Proofs.YtemfckibdojbbaaDoor.Nf

namespace Go.Proofs.YtemfckibdojbbaaDoor.Nf
open Go.RowKit Go.Proofs.YtemfckibdojbbaaDoor.PAll Go.Proofs.YtemfckibdojbbaaDoorW.PrintWords Go.Proofs.YtemfckibdojbbaaDoorW.PrintLast Go.Proofs.YtemfckibdojbbaaDoorW.PrintMore Go.Proofs.YtemfckibdojbbaaDoor.Nm
set_option linter.unusedVariables false
set_option linter.unusedSimpArgs false
noncomputable def tz (n : Nat) : Nat := if h : n ≠ 0 then Classical.choose (low_form n h) else 0
theorem tz_eq {n t m : Nat} (h : n = 2 ^ t * (2 * m + 1)) : tz n = t := by
 have h0 : n ≠ 0 := by rw [h]; exact Nat.ne_of_gt (Nat.mul_pos (Nat.pow_pos (by decide)) (by omega))
 unfold tz
 rw [dif_pos h0]
 obtain ⟨m', hm⟩ := Classical.choose_spec (low_form n h0)
 exact low_unique (hm.symm.trans h)
noncomputable def od (n : Nat) : Nat := n / 2 ^ tz n
theorem od_eq {n t m : Nat} (h : n = 2 ^ t * (2 * m + 1)) : od n = 2 * m + 1 := by
 unfold od
 rw [tz_eq h, h, Nat.mul_div_cancel_left _ (Nat.pow_pos (by decide))]
theorem od_le (n : Nat) : od n ≤ n := Nat.div_le_self _ _
theorem od_mul (n : Nat) : od n * 2 ^ tz n = n := by
 by_cases h : n = 0
 ·subst h; unfold od; rw [Nat.zero_div, Nat.zero_mul]
 obtain ⟨t, m, e⟩ := low_form n h
 rw [od_eq e, tz_eq e, e, Nat.mul_comm]
theorem od_ne {n : Nat} (h : n ≠ 0) : od n ≠ 0 := fun e => h (by have := od_mul n; rw [e, Nat.zero_mul] at this; exact this.symm)
noncomputable def cf (s : Bool) (n : Nat) (e : Int) : Bool × List Int × Int := if n = 0 then (false, [], 0) else (s, ofN (od n), e + (tz n : Int))
theorem cf_zero (s : Bool) (e : Int) : cf s 0 e = (false, [], 0) := by unfold cf; rw [if_pos rfl]
theorem cf_ne {n : Nat} (h : n ≠ 0) (s : Bool) (e : Int) : cf s n e = (s, ofN (od n), e + (tz n : Int)) := by unfold cf; rw [if_neg h]
theorem tz_shl {n : Nat} (h : n ≠ 0) (j : Nat) : tz (n * 2 ^ j) = tz n + j ∧ od (n * 2 ^ j) = od n := by
 obtain ⟨t, m, e⟩ := low_form n h
 have e2 : n * 2 ^ j = 2 ^ (t + j) * (2 * m + 1) := by rw [e, Nat.pow_add, Nat.mul_right_comm]
 exact ⟨by rw [tz_eq e2, tz_eq e], by rw [od_eq e2, od_eq e]⟩
theorem cf_shl (s : Bool) (n j : Nat) (e : Int) : cf s (n * 2 ^ j) e = cf s n (e + j) := by
 by_cases h : n = 0
 ·subst h; rw [Nat.zero_mul, cf_zero, cf_zero]
 have h2 : n * 2 ^ j ≠ 0 := Nat.ne_of_gt (Nat.mul_pos (Nat.pos_of_ne_zero h) (Nat.pow_pos (by decide)))
 rw [cf_ne h, cf_ne h2, (tz_shl h j).1, (tz_shl h j).2]
 congr 2
 omega
theorem tz_lt {n : Nat} (h : n ≠ 0) : tz n < bl n := by
 obtain ⟨t, m, e⟩ := low_form n h
 rw [tz_eq e]; exact low_lt e
theorem bl_len {n m : Nat} (h : (ofN n).length ≤ m) : bl n ≤ 64 * m := by
 rw [bl_le_iff]
 have := (ofN_len n m).1 h
 rw [Nat.pow_mul]; exact this
theorem len_od (n : Nat) : (ofN (od n)).length ≤ (ofN n).length := ofN_len_le (od_le n)
theorem Form_eq (s : Bool) (l : List Int) (e : Int) (k : Nat) (hw : Ws l) (hl : l.length < 17592186044000) (h0 : -1000000000000000000 ≤ e) (h1 : e ≤ 1000000000000000000) (hk : 100000000000000000 ≤ k) : raw_Form.f k s l e = some (cf s (val l) e) := by
 unfold raw_Form.f
 have hn : (ofN (val l)).length ≤ l.length := (ofN_len (val l) l.length).2 (val_lt hw)
 rw [trim_eq l k hw (by omega) (by omega), bind_s]
 generalize val l = v at *
 by_cases h : v = 0
 ·subst h
  rw [ofN_zero, cf_zero, if_pos (show ((([] : List Int).length : Nat) : Int) = 0 from rfl)]
 obtain ⟨t, m, e1⟩ := low_form v h
 have hne : (ofN v).length ≠ 0 := fun h' => h (ofN_zero_iff.1 h')
 have q0 : ¬ ((ofN v).length : Int) = 0 := by omega
 have ht := low_lt e1
 have hb := bl_len hn
 have ht2 : t < 4611686018427387904 := by omega
 rw [if_neg q0, ((lLow_eq v k (by omega) (by omega)).2 t m e1), bind_s, lShr_eq _ t k (ws_ofN v) ht2 (by omega) (by omega), bind_s, cf_ne h, val_ofN, tz_eq e1, wrapS (by omega) (by omega)]
 unfold od
 rw [tz_eq e1]
theorem rForm_eq (s : Bool) (l : List Int) (e : Int) (k : Nat) (hw : Ws l) (hl : l.length < 17592186044000) (h0 : -1000000000000000000 ≤ e) (h1 : e ≤ 1000000000000000000) (hk : 100000000000000000 ≤ k) : ulpref04_Form.f k s l e = some (cf s (val l) e) := by
 unfold ulpref04_Form.f
 have hn : (ofN (val l)).length ≤ l.length := (ofN_len (val l) l.length).2 (val_lt hw)
 rw [rnorm_eq l k hw (by omega) (by omega), bind_s]
 generalize val l = v at *
 by_cases h : v = 0
 ·subst h
  rw [ofN_zero, cf_zero, if_pos (show ((([] : List Int).length : Nat) : Int) = 0 from rfl)]
 obtain ⟨t, m, e1⟩ := low_form v h
 have hne : (ofN v).length ≠ 0 := fun h' => h (ofN_zero_iff.1 h')
 have q0 : ¬ ((ofN v).length : Int) = 0 := by omega
 have ht := low_lt e1
 have hb := bl_len hn
 have ht2 : t < 4611686018427387904 := by omega
 rw [if_neg q0, rLow_eq (ofN v) k (ws_ofN v) (by rw [val_ofN]; exact e1) ht2 (by omega) (by omega), bind_s, rshr_eq (ofN v) t k (ws_ofN v) (by omega) (by omega) (by omega), bind_s, cf_ne h, val_ofN, tz_eq e1, wrapS (by omega) (by omega)]
 unfold od
 rw [tz_eq e1]
def sg (s : Bool) (n : Nat) : Int := if s then -(n : Int) else (n : Int)
def lowE : Int := -4000000
def Vz (z e : Int) : Int := z * 2 ^ (e - lowE).toNat
noncomputable def cz (z e : Int) : Bool × List Int × Int := cf (decide (z < 0)) z.natAbs e
theorem sg_zero (s : Bool) : sg s 0 = 0 := by cases s <;> rfl
theorem sg_abs (s : Bool) (n : Nat) : (sg s n).natAbs = n := by cases s <;> simp [sg]
theorem sg_neg (s : Bool) (n : Nat) : sg (!s) n = - sg s n := by cases s <;> simp [sg]
theorem sg_add (s : Bool) (n m : Nat) : sg s (n + m) = sg s n + sg s m := by cases s <;> simp [sg] <;> omega
theorem sg_sub (s : Bool) {n m : Nat} (h : m ≤ n) : sg s (n - m) = sg s n + sg (!s) m := by cases s <;> simp [sg] <;> omega
theorem sg_mul (s : Bool) (n m : Nat) : sg s (n * m) = sg s n * (m : Int) := by cases s <;> simp [sg, Int.neg_mul]
theorem pow_int (j : Nat) : ((2 ^ j : Nat) : Int) = (2 : Int) ^ j := by simp
theorem sg_shl (s : Bool) (n j : Nat) : sg s (n * 2 ^ j) = sg s n * 2 ^ j := by rw [sg_mul, pow_int]
theorem sg_neg_iff (s : Bool) {n : Nat} (h : n ≠ 0) : decide (sg s n < 0) = s := by cases s <;> simp [sg] <;> omega
theorem cf_cz (s : Bool) (n : Nat) (e : Int) : cf s n e = cz (sg s n) e := by
 unfold cz
 rw [sg_abs]
 by_cases h : n = 0
 ·subst h; rw [cf_zero, cf_zero]
 rw [sg_neg_iff s h]
theorem pow2_pos (j : Nat) : (0 : Int) < 2 ^ j := by rw [← pow_int]; exact Int.ofNat_lt.2 (Nat.pow_pos (by decide))
theorem mul_pow_neg (z : Int) (j : Nat) : decide (z * 2 ^ j < 0) = decide (z < 0) := by
 rw [decide_eq_decide]
 have := pow2_pos j
 constructor
 ·intro h
  refine Classical.byContradiction fun g => ?_
  have := Int.mul_nonneg (Int.not_lt.1 g) (Int.le_of_lt this)
  omega
 intro h; exact Int.mul_neg_of_neg_of_pos h this
theorem cz_shl (z : Int) (j : Nat) (e : Int) : cz (z * 2 ^ j) e = cz z (e + j) := by
 unfold cz
 rw [mul_pow_neg, Int.natAbs_mul, ← pow_int, Int.natAbs_natCast, cf_shl]
theorem cz_Vz {e : Int} (h : lowE ≤ e) (z : Int) : cz z e = cz (Vz z e) lowE := by
 unfold Vz
 rw [cz_shl]
 congr 1
 omega
theorem Vz_shl {e : Int} (h : lowE ≤ e) (z : Int) (j : Nat) : Vz (z * 2 ^ j) e = Vz z (e + j) := by
 unfold Vz
 rw [show (e + j - lowE).toNat = j + (e - lowE).toNat by omega, Int.pow_add, Int.mul_assoc]
theorem Vz_zero (e : Int) : Vz 0 e = 0 := Int.zero_mul _
theorem Vz_add (a b e : Int) : Vz (a + b) e = Vz a e + Vz b e := Int.add_mul _ _ _
theorem Vz_neg (a e : Int) : Vz (-a) e = - Vz a e := Int.neg_mul _ _
def vl (s : Bool) (l : List Int) (e : Int) : Int := Vz (sg s (val l)) e
theorem cf_vl {e : Int} (h : lowE ≤ e) (s : Bool) (l : List Int) : cf s (val l) e = cz (vl s l e) lowE := by rw [cf_cz, cz_Vz h]; rfl
theorem vl_cf {e : Int} (h : lowE ≤ e) (s : Bool) (n : Nat) : vl (cf s n e).1 (cf s n e).2.1 (cf s n e).2.2 = Vz (sg s n) e := by
 by_cases h0 : n = 0
 ·subst h0; rw [cf_zero, sg_zero, Vz_zero]; unfold vl; rw [val_nil, sg_zero, Vz_zero]
 rw [cf_ne h0]
 show Vz (sg s (val (ofN (od n)))) (e + (tz n : Int)) = _
 rw [val_ofN, ← Vz_shl h, ← sg_shl, od_mul]
end Go.Proofs.YtemfckibdojbbaaDoor.Nf

namespace Go.Proofs.YtemfckibdojbbaaDoor.Nf
open Go.RowKit Go.Proofs.YtemfckibdojbbaaDoor.PAll Go.Proofs.YtemfckibdojbbaaDoorW.PrintWords Go.Proofs.YtemfckibdojbbaaDoorW.PrintLast Go.Proofs.YtemfckibdojbbaaDoorW.PrintMore Go.Proofs.YtemfckibdojbbaaDoor.Nm
set_option linter.unusedVariables false
set_option linter.unusedSimpArgs false
theorem len0 {v : Nat} : (((ofN v).length : Nat) : Int) = 0 ↔ v = 0 := by rw [← ofN_zero_iff]; omega
theorem len_shl {a m : Nat} (h : (ofN a).length ≤ m) (j : Nat) : (ofN (a * 2 ^ j)).length ≤ m + j / 64 + 1 := by
 rw [ofN_len] at h ⊢
 have e : 18446744073709551616 ^ (m + j / 64 + 1) = 18446744073709551616 ^ m * 2 ^ (64 * (j / 64 + 1)) := by rw [Nat.add_assoc, Nat.pow_add, Nat.pow_mul]
 rw [e]
 exact Nat.mul_lt_mul_of_lt_of_le h (Nat.pow_le_pow_right (by decide) (by omega)) (Nat.pow_pos (by decide))
theorem len_add {a b m : Nat} (ha : (ofN a).length ≤ m) (hb : (ofN b).length ≤ m) : (ofN (a + b)).length ≤ m + 1 := big_add_aux rfl ((ofN_len _ _).1 ha) ((ofN_len _ _).1 hb)
theorem Zero_eq (s : Bool) (l : List Int) (e : Int) (k : Nat) (hw : Ws l) (hl : l.length < 17592186044000) (hk : 100000000000000000 ≤ k) : raw_Zero.f k s l e = some (decide (val l = 0)) := by
 unfold raw_Zero.f
 rw [trim_eq l k hw (by omega) (by omega), bind_s]
 congr 1
 rw [Bool.eq_iff_iff, decide_eq_true_iff, beq_iff_eq, len0]
def fits (n : Nat) (e : Int) : Bool := decide (n < big ∧ -32768 ≤ e ∧ e ≤ 32768)
theorem fits_iff {n : Nat} {e : Int} : fits n e = true ↔ n < big ∧ -32768 ≤ e ∧ e ≤ 32768 := decide_eq_true_iff
theorem fits_hi {n : Nat} {e : Int} (h : n < big) (g : e ≥ -32768) : fits n e = decide (e ≤ 32768) := by
 rw [Bool.eq_iff_iff, fits_iff, decide_eq_true_iff]
 exact ⟨fun c => c.2.2, fun c => ⟨h, g, c⟩⟩
theorem fits_no {n : Nat} {e : Int} (h : ¬ (n < big ∧ -32768 ≤ e ∧ e ≤ 32768)) : fits n e = false := by
 rw [Bool.eq_false_iff]; exact fun c => h (fits_iff.1 c)
theorem len_big' (v : Nat) : (((ofN v).length : Nat) : Int) ≤ 1024 ↔ v < big := by rw [← ofN_big]; omega
theorem Fits_eq (s : Bool) (l : List Int) (e : Int) (k : Nat) (hw : Ws l) (hl : l.length < 17592186044000) (hk : 100000000000000000 ≤ k) : raw_Fits.f k s l e = some (fits (val l) e) := by
 unfold raw_Fits.f
 rw [trim_eq l k hw (by omega) (by omega), bind_s]
 by_cases h : val l < big
 ·rw [if_pos ((len_big' _).2 h)]
  by_cases g : e ≥ -32768
  ·rw [if_pos g, fits_hi h g]
  rw [if_neg g, fits_no (fun c => g c.2.1)]
 rw [if_neg (fun c => h ((len_big' _).1 c))]; rw [fits_no (fun c => h c.1)]
theorem right_eq (s : Bool) (l : List Int) (e : Int) (k : Nat) (hw : Ws l) (hl : l.length < 17592186044000) (hk : 100000000000000000 ≤ k) : dyad_number_right.f k s l e = some (fits (val l) e) := by
 unfold dyad_number_right.f
 rw [Fits_eq s l e k hw hl hk, bind_s]
theorem rRight_eq (s : Bool) (l : List Int) (e : Int) (k : Nat) (hw : Ws l) (hl : l.length < 17592186044000) (hk : 100000000000000000 ≤ k) : ulpref04_Right.f k s l e = some (fits (val l) e) := by
 unfold ulpref04_Right.f
 rw [rgreat_eq l k hw (by omega) (by omega), bind_s]
 by_cases h : val l < big
 ·rw [if_neg (show ¬ decide (¬ val l < big) = true by rw [decide_eq_true_iff]; exact fun c => c h)]
  by_cases g : e ≥ -32768
  ·rw [if_pos g, fits_hi h g]
  rw [if_neg g, fits_no (fun c => g c.2.1)]
 rw [if_pos (decide_eq_true h)]; rw [fits_no (fun c => h c.1)]
def roomS (d : Bool × List Int × Int) : Bool × List Int × Int × Int := if fits (val d.2.1) d.2.2 = true then (d.1, d.2.1, d.2.2, 0) else (false, [], 0, 3)
theorem room_eq (s : Bool) (l : List Int) (e : Int) (k : Nat) (hw : Ws l) (hl : l.length < 17592186044000) (hk : 100000000000000000 ≤ k) : dyad_room.f k s l e = some (roomS (s, l, e)) := by
 unfold dyad_room.f roomS
 rw [Fits_eq s l e k hw hl hk, bind_s]
 split <;> rfl
theorem rroom_eq (s : Bool) (l : List Int) (e : Int) (k : Nat) (hw : Ws l) (hl : l.length < 17592186044000) (hk : 100000000000000000 ≤ k) : ulpref04_room.f k s l e = some (roomS (s, l, e)) := by
 unfold ulpref04_room.f roomS
 rw [rRight_eq s l e k hw hl hk, bind_s]
 split <;> rfl
structure Rt (l : List Int) (e : Int) : Prop where
 ws : Ws l
 len : l.length < 17592186044000
 sm : (ofN (val l)).length ≤ 8192
 lo : -1000000 ≤ e
 hi : e ≤ 1000000
theorem Rt.lowE {l : List Int} {e : Int} (h : Rt l e) : Nf.lowE ≤ e := by have := h.lo; unfold Nf.lowE; omega
theorem One_eq (s : Bool) (l : List Int) (e : Int) (k : Nat) (h : Rt l e) (hk : 100000000000000000 ≤ k) : raw_One.f k s l e = some (cf s (val l) e) := by
 unfold raw_One.f
 rw [Form_eq s l e k h.ws h.len (by have := h.lo; omega) (by have := h.hi; omega) hk, bind_s]
theorem rOne_eq (s : Bool) (l : List Int) (e : Int) (k : Nat) (h : Rt l e) (hk : 100000000000000000 ≤ k) : ulpref04_One.f k s l e = some (cf s (val l) e) := by
 unfold ulpref04_One.f
 rw [rForm_eq s l e k h.ws h.len (by have := h.lo; omega) (by have := h.hi; omega) hk, bind_s]
theorem mn_eq (a b : Int) : mn a b = min a b := by unfold mn; rw [Int.min_def]; split <;> split <;> omega
theorem sub_nat {a E : Int} (h : E ≤ a) (h1 : a - E < 1000000000000) : wrap64 (a - E) = (((a - E).toNat : Nat) : Int) := by
 rw [wrapS (by omega) (by omega)]; omega
theorem amounts_eq (s1 s2 : Bool) (a b : Nat) (e1 e2 E : Int) (k : Nat) (hE : E = min e1 e2) (ha : (ofN a).length ≤ 8192) (hb : (ofN b).length ≤ 8192) (l1 : -2000000 ≤ e1) (u1 : e1 ≤ 2000000) (l2 : -2000000 ≤ e2) (u2 : e2 ≤ 2000000) (hk : 100000000000000000 ≤ k) :
  raw_amounts.f k s1 (ofN a) e1 s2 (ofN b) e2 = some (ofN (a * 2 ^ (e1 - E).toNat), ofN (b * 2 ^ (e2 - E).toNat), E) := by
 unfold raw_amounts.f
 have h1 : E ≤ e1 := by omega
 have h2 : E ≤ e2 := by omega
 have h3 : (e1 - E).toNat ≤ 4000000 := by omega
 have h4 : (e2 - E).toNat ≤ 4000000 := by omega
 rw [mn_eq, ← hE, sub_nat h1 (by omega), sub_nat h2 (by omega)]
 generalize (e1 - E).toNat = i at *
 generalize (e2 - E).toNat = j at *
 rw [lShl_eq (ofN a) i k (ws_ofN a) (by omega) (by omega) (by omega), bind_s, lShl_eq (ofN b) j k (ws_ofN b) (by omega) (by omega) (by omega), bind_s, val_ofN, val_ofN]
theorem cmpI_ge {x y : Nat} : cmpI x y ≥ 0 ↔ y ≤ x := by unfold cmpI; split <;> (try split) <;> omega
theorem sum_cz {s1 s2 : Bool} {x y : Nat} {E : Int} (hE : lowE ≤ E) :
  (s1 = s2 → cf s1 (x + y) E = cz (Vz (sg s1 x) E + Vz (sg s2 y) E) lowE) ∧ (s1 ≠ s2 → y ≤ x → cf s1 (x - y) E = cz (Vz (sg s1 x) E + Vz (sg s2 y) E) lowE) ∧ (s1 ≠ s2 → x ≤ y → cf s2 (y - x) E = cz (Vz (sg s1 x) E + Vz (sg s2 y) E) lowE) := by
 refine ⟨?_, ?_, ?_⟩
 ·rintro rfl; rw [cf_cz, cz_Vz hE, sg_add, Vz_add]
 ·intro h g
  have : s2 = !s1 := by cases s1 <;> cases s2 <;> simp_all
  rw [cf_cz, cz_Vz hE, sg_sub _ g, Vz_add, this]
 intro h g
 have : s1 = !s2 := by cases s1 <;> cases s2 <;> simp_all
 rw [cf_cz, cz_Vz hE, sg_sub _ g, Vz_add, this, Int.add_comm]
theorem scale {s : Bool} {o : Nat} {e E : Int} (h : lowE ≤ E) (g : E ≤ e) : Vz (sg s (o * 2 ^ (e - E).toNat)) E = Vz (sg s o) e := by
 rw [sg_shl, Vz_shl h]; congr 1; omega
theorem vl_parts {n : Nat} {e : Int} (h : lowE ≤ e) (s : Bool) : Vz (sg s (od n)) (e + (tz n : Int)) = Vz (sg s n) e := by
 rw [← Vz_shl h, ← sg_shl, od_mul]
theorem tz_small {n : Nat} (h : n ≠ 0) (hl : (ofN n).length ≤ 8192) : (tz n : Int) ≤ 600000 := by
 have := tz_lt h
 have := bl_len hl
 omega
theorem Add_eq (s1 s2 : Bool) (l1 l2 : List Int) (e1 e2 : Int) (k : Nat) (h1 : Rt l1 e1) (h2 : Rt l2 e2) (hk : 200000000000000000 ≤ k) : raw_Add.f k s1 l1 e1 s2 l2 e2 = some (cz (vl s1 l1 e1 + vl s2 l2 e2) lowE) := by
 unfold raw_Add.f
 have b1 := h1.lowE
 have b2 := h2.lowE
 have hv1 := h1.sm
 have hv2 := h2.sm
 have d1 := h1.lo; have d2 := h1.hi; have d3 := h2.lo; have d4 := h2.hi
 rw [One_eq s1 l1 e1 k h1 (by omega), bind_s, One_eq s2 l2 e2 k h2 (by omega), bind_s]
 have f1 := cf_vl b1 s1 l1
 have f2 := cf_vl b2 s2 l2
 have v1 : vl s1 l1 e1 = Vz (sg s1 (val l1)) e1 := rfl
 have v2 : vl s2 l2 e2 = Vz (sg s2 (val l2)) e2 := rfl
 generalize val l1 = n1 at *
 generalize val l2 = n2 at *
 by_cases z1 : n1 = 0
 ·have : (cf s1 n1 e1).2.1 = [] := by rw [z1, cf_zero]
  rw [this, Zero_eq _ _ _ k ws_nil (by simp) (by omega), bind_s, if_pos (by rw [val_nil]; rfl), f2, v1, z1, sg_zero, Vz_zero, Int.zero_add]
 have c1 := cf_ne z1 s1 e1
 have o1 := od_ne z1
 rw [c1, Zero_eq _ _ _ k (ws_ofN _) (by have := len_od n1; show (ofN (od n1)).length < _; omega) (by omega), bind_s]
 rw [if_neg (by rw [val_ofN]; simpa using o1)]
 by_cases z2 : n2 = 0
 ·have : (cf s2 n2 e2).2.1 = [] := by rw [z2, cf_zero]
  rw [this, Zero_eq _ _ _ k ws_nil (by simp) (by omega), bind_s, if_pos (by rw [val_nil]; rfl), ← c1, f1, v2, z2, sg_zero, Vz_zero, Int.add_zero]
 have c2 := cf_ne z2 s2 e2
 have o2 := od_ne z2
 rw [c2, Zero_eq _ _ _ k (ws_ofN _) (by have := len_od n2; show (ofN (od n2)).length < _; omega) (by omega), bind_s]
 rw [if_neg (by rw [val_ofN]; simpa using o2)]
 have t1 := tz_small z1 hv1
 have t2 := tz_small z2 hv2
 have p1 := vl_parts b1 s1 (n := n1)
 have p2 := vl_parts b2 s2 (n := n2)
 have q1 := len_od n1
 have q2 := len_od n2
 show raw_Add.j0 k s1 (ofN (od n1)) (e1 + (tz n1 : Int)) s2 (ofN (od n2)) (e2 + (tz n2 : Int)) = _
 have g1 : -2000000 ≤ e1 + (tz n1 : Int) ∧ e1 + (tz n1 : Int) ≤ 2000000 := by omega
 have g2 : -2000000 ≤ e2 + (tz n2 : Int) ∧ e2 + (tz n2 : Int) ≤ 2000000 := by omega
 rw [v1, v2, ← p1, ← p2]
 generalize od n1 = x at *
 generalize od n2 = y at *
 generalize e1 + (tz n1 : Int) = a1 at *
 generalize e2 + (tz n2 : Int) = a2 at *
 obtain ⟨k, rfl⟩ : ∃ m, k = m + 1 := ⟨k - 1, by omega⟩
 obtain ⟨E, hE⟩ : ∃ E, E = min a1 a2 := ⟨_, rfl⟩
 simp only [raw_Add.j0]
 rw [amounts_eq s1 s2 x y a1 a2 E k hE (by omega) (by omega) g1.1 g1.2 g2.1 g2.2 (by omega), bind_s]
 have lE : lowE ≤ E := by have := g1.1; have := g2.1; unfold lowE; omega
 have bE : -2000000 ≤ E ∧ E ≤ 2000000 := by omega
 have w1 : E ≤ a1 := by omega
 have w2 : E ≤ a2 := by omega
 have y1 : (a1 - E).toNat ≤ 4000000 := by omega
 have y2 : (a2 - E).toNat ≤ 4000000 := by omega
 have L1 := len_shl (Nat.le_trans q1 hv1) (a1 - E).toNat
 have L2 := len_shl (Nat.le_trans q2 hv2) (a2 - E).toNat
 have S1 := scale (s := s1) (o := x) lE w1
 have S2 := scale (s := s2) (o := y) lE w2
 have M1 : (ofN (x * 2 ^ (a1 - E).toNat)).length ≤ 100000 := by omega
 have M2 : (ofN (y * 2 ^ (a2 - E).toNat)).length ≤ 100000 := by omega
 generalize x * 2 ^ (a1 - E).toNat = X at *
 generalize y * 2 ^ (a2 - E).toNat = Y at *
 rw [← S1, ← S2]
 obtain ⟨r1, r2, r3⟩ := sum_cz (s1 := s1) (s2 := s2) (x := X) (y := Y) lE
 by_cases hs : s1 = s2
 ·rw [if_pos (by rw [beq_iff_eq]; exact hs), lAdd_eq _ _ (ws_ofN X) (ws_ofN Y) (by omega) (by omega) k (by omega), bind_s, val_ofN, val_ofN]
  have M3 : (ofN (X + Y)).length < 17592186044000 := by
   have := len_add M1 M2
   omega
  rw [Form_eq s1 _ E k (ws_ofN _) M3 (by omega) (by omega) (by omega), bind_s, val_ofN, r1 hs]
 rw [if_neg (by rw [beq_iff_eq]; exact hs)]
 obtain ⟨k, rfl⟩ : ∃ m, k = m + 1 := ⟨k - 1, by omega⟩
 simp only [raw_Add.j1]
 rw [lCmp_eq _ _ k (ws_ofN X) (ws_ofN Y) (by omega) (by omega) (by omega), bind_s, val_ofN, val_ofN]
 by_cases g : Y ≤ X
 ·rw [if_pos (cmpI_ge.2 g), lSub_eq X Y g k (by omega) (by omega), bind_s]
  have M3 : (ofN (X - Y)).length < 17592186044000 := by have := ofN_len_le (Nat.sub_le X Y); omega
  rw [Form_eq s1 _ E k (ws_ofN _) M3 (by omega) (by omega) (by omega), bind_s, val_ofN, r2 hs g]
 have g' : X ≤ Y := by omega
 rw [if_neg (fun c => g (cmpI_ge.1 c)), lSub_eq Y X g' k (by omega) (by omega), bind_s]
 have M3 : (ofN (Y - X)).length < 17592186044000 := by have := ofN_len_le (Nat.sub_le Y X); omega
 rw [Form_eq s2 _ E k (ws_ofN _) M3 (by omega) (by omega) (by omega), bind_s, val_ofN, r3 hs g']
end Go.Proofs.YtemfckibdojbbaaDoor.Nf

namespace Go.Proofs.YtemfckibdojbbaaDoor.Nf
open Go.RowKit Go.Proofs.YtemfckibdojbbaaDoor.PAll Go.Proofs.YtemfckibdojbbaaDoorW.PrintWords Go.Proofs.YtemfckibdojbbaaDoorW.PrintLast Go.Proofs.YtemfckibdojbbaaDoorW.PrintMore Go.Proofs.YtemfckibdojbbaaDoor.Nm
set_option linter.unusedVariables false
set_option linter.unusedSimpArgs false
structure Rs (l : List Int) (e : Int) : Prop where
 ws : Ws l
 len : l.length < 17592186044000
 sm : (ofN (val l)).length ≤ 2000
 lo : -200000 ≤ e
 hi : e ≤ 200000
theorem Rs.t {l : List Int} {e : Int} (h : Rs l e) : Rt l e := ⟨h.ws, h.len, by have := h.sm; omega, by have := h.lo; omega, by have := h.hi; omega⟩
theorem rs_fits {l : List Int} {e : Int} (hw : Ws l) (hl : l.length < 17592186044000) (h : fits (val l) e = true) : Rs l e := by
 obtain ⟨a, b, c⟩ := fits_iff.1 h
 exact ⟨hw, hl, by have := len_big a; omega, by omega, by omega⟩
theorem rt_cf (s : Bool) {n : Nat} {e : Int} (hn : (ofN n).length ≤ 2000) (h0 : -400000 ≤ e) (h1 : e ≤ 400000) : Rt (cf s n e).2.1 (cf s n e).2.2 := by
 by_cases h : n = 0
 ·rw [h, cf_zero]; exact ⟨ws_nil, by simp, by rw [val_nil, ofN_zero]; simp, by show (-1000000 : Int) ≤ 0; omega, by show (0 : Int) ≤ 1000000; omega⟩
 rw [cf_ne h]
 have a := len_od n
 have t := tz_lt h
 have b := bl_len hn
 refine ⟨ws_ofN _, ?_, ?_, ?_, ?_⟩
 ·show (ofN (od n)).length < _; omega
 ·show (ofN (val (ofN (od n)))).length ≤ _; rw [val_ofN]; omega
 ·show -1000000 ≤ e + (tz n : Int); omega
 show e + (tz n : Int) ≤ 1000000; omega
theorem Neg_eq (s : Bool) (l : List Int) (e : Int) (k : Nat) (h : Rt l e) (hk : 100000000000000000 ≤ k) : raw_Neg.f k s l e = some (cf (!s) (val l) e) := by
 unfold raw_Neg.f
 rw [Form_eq _ l e k h.ws h.len (by have := h.lo; omega) (by have := h.hi; omega) hk, bind_s]
theorem rNeg_eq (s : Bool) (l : List Int) (e : Int) (k : Nat) (h : Rt l e) (hk : 100000000000000000 ≤ k) : ulpref04_Neg.f k s l e = some (cf (!s) (val l) e) := by
 unfold ulpref04_Neg.f
 rw [rForm_eq _ l e k h.ws h.len (by have := h.lo; omega) (by have := h.hi; omega) hk, bind_s]
theorem vl_neg (s : Bool) (l : List Int) (e : Int) : vl (!s) l e = - vl s l e := by unfold vl; rw [sg_neg, Vz_neg]
theorem Sub_eq (s1 s2 : Bool) (l1 l2 : List Int) (e1 e2 : Int) (k : Nat) (h1 : Rt l1 e1) (h2 : Rs l2 e2) (hk : 200000000000000000 ≤ k) : raw_Sub.f k s1 l1 e1 s2 l2 e2 = some (cz (vl s1 l1 e1 - vl s2 l2 e2) lowE) := by
 unfold raw_Sub.f
 rw [Neg_eq s2 l2 e2 k h2.t (by omega), bind_s, Add_eq _ _ _ _ _ _ k h1 (rt_cf _ h2.sm (by have := h2.lo; omega) (by have := h2.hi; omega)) hk, bind_s, vl_cf h2.t.lowE, sg_neg, Vz_neg]
 rfl
theorem rPlus_eq (s1 s2 : Bool) (l1 l2 : List Int) (e1 e2 : Int) (k : Nat) (h1 : Rt l1 e1) (h2 : Rt l2 e2) (hk : 200000000000000000 ≤ k) : ulpref04_Plus.f k s1 l1 e1 s2 l2 e2 = some (cz (vl s1 l1 e1 + vl s2 l2 e2) lowE) := by
 unfold ulpref04_Plus.f
 have b1 := h1.lowE
 have b2 := h2.lowE
 have hv1 := h1.sm
 have hv2 := h2.sm
 have d1 := h1.lo; have d2 := h1.hi; have d3 := h2.lo; have d4 := h2.hi
 rw [rOne_eq s1 l1 e1 k h1 (by omega), bind_s, rOne_eq s2 l2 e2 k h2 (by omega), bind_s]
 have f1 := cf_vl b1 s1 l1
 have f2 := cf_vl b2 s2 l2
 have v1 : vl s1 l1 e1 = Vz (sg s1 (val l1)) e1 := rfl
 have v2 : vl s2 l2 e2 = Vz (sg s2 (val l2)) e2 := rfl
 generalize val l1 = n1 at *
 generalize val l2 = n2 at *
 by_cases z1 : n1 = 0
 ·have : (cf s1 n1 e1).2.1 = [] := by rw [z1, cf_zero]
  rw [this, if_pos (show ((([] : List Int).length : Nat) : Int) = 0 from rfl), f2, v1, z1, sg_zero, Vz_zero, Int.zero_add]
 have c1 := cf_ne z1 s1 e1
 have o1 := od_ne z1
 rw [c1, if_neg (show ¬ (((ofN (od n1)).length : Nat) : Int) = 0 from fun c => o1 (len0.1 c))]
 obtain ⟨k, rfl⟩ : ∃ m, k = m + 1 := ⟨k - 1, by omega⟩
 show ulpref04_Plus.j0 (k + 1) s1 (ofN (od n1)) (e1 + (tz n1 : Int)) _ _ _ = _
 simp only [ulpref04_Plus.j0]
 by_cases z2 : n2 = 0
 ·have : (cf s2 n2 e2).2.1 = [] := by rw [z2, cf_zero]
  rw [this, if_pos (show ((([] : List Int).length : Nat) : Int) = 0 from rfl), ← c1, f1, v2, z2, sg_zero, Vz_zero, Int.add_zero]
 have c2 := cf_ne z2 s2 e2
 have o2 := od_ne z2
 rw [c2, if_neg (show ¬ (((ofN (od n2)).length : Nat) : Int) = 0 from fun c => o2 (len0.1 c))]
 have t1 := tz_small z1 hv1
 have t2 := tz_small z2 hv2
 have p1 := vl_parts b1 s1 (n := n1)
 have p2 := vl_parts b2 s2 (n := n2)
 have q1 := len_od n1
 have q2 := len_od n2
 show ulpref04_Plus.j1 k s1 (ofN (od n1)) (e1 + (tz n1 : Int)) s2 (ofN (od n2)) (e2 + (tz n2 : Int)) = _
 have g1 : -2000000 ≤ e1 + (tz n1 : Int) ∧ e1 + (tz n1 : Int) ≤ 2000000 := by omega
 have g2 : -2000000 ≤ e2 + (tz n2 : Int) ∧ e2 + (tz n2 : Int) ≤ 2000000 := by omega
 rw [v1, v2, ← p1, ← p2]
 generalize od n1 = x at *
 generalize od n2 = y at *
 generalize e1 + (tz n1 : Int) = a1 at *
 generalize e2 + (tz n2 : Int) = a2 at *
 obtain ⟨k, rfl⟩ : ∃ m, k = m + 1 := ⟨k - 1, by omega⟩
 obtain ⟨E, hE⟩ : ∃ E, E = min a1 a2 := ⟨_, rfl⟩
 simp only [ulpref04_Plus.j1]
 have lE : lowE ≤ E := by have := g1.1; have := g2.1; unfold lowE; omega
 have bE : -2000000 ≤ E ∧ E ≤ 2000000 := by omega
 have w1 : E ≤ a1 := by omega
 have w2 : E ≤ a2 := by omega
 have y1 : (a1 - E).toNat ≤ 4000000 := by omega
 have y2 : (a2 - E).toNat ≤ 4000000 := by omega
 have L1 := len_shl (Nat.le_trans q1 hv1) (a1 - E).toNat
 have L2 := len_shl (Nat.le_trans q2 hv2) (a2 - E).toNat
 have S1 := scale (s := s1) (o := x) lE w1
 have S2 := scale (s := s2) (o := y) lE w2
 have M1 : (ofN (x * 2 ^ (a1 - E).toNat)).length ≤ 100000 := by omega
 have M2 : (ofN (y * 2 ^ (a2 - E).toNat)).length ≤ 100000 := by omega
 rw [mn_eq, ← hE, sub_nat w1 (by omega), sub_nat w2 (by omega), rshl_eq (ofN x) _ k (ws_ofN x) (by omega) (by omega) (by omega), bind_s, rshl_eq (ofN y) _ k (ws_ofN y) (by omega) (by omega) (by omega), bind_s, val_ofN, val_ofN]
 generalize x * 2 ^ (a1 - E).toNat = X at *
 generalize y * 2 ^ (a2 - E).toNat = Y at *
 rw [← S1, ← S2]
 obtain ⟨r1, r2, r3⟩ := sum_cz (s1 := s1) (s2 := s2) (x := X) (y := Y) lE
 by_cases hs : s1 = s2
 ·rw [if_pos (by rw [beq_iff_eq]; exact hs), radd_eq _ _ k (ws_ofN X) (ws_ofN Y) (by omega) (by omega) (by omega), bind_s, val_ofN, val_ofN]
  have M3 : (ofN (X + Y)).length < 17592186044000 := by
   have := len_add M1 M2
   omega
  rw [rForm_eq s1 _ E k (ws_ofN _) M3 (by omega) (by omega) (by omega), bind_s, val_ofN, r1 hs]
 rw [if_neg (by rw [beq_iff_eq]; exact hs), rcmp_eq _ _ k (ws_ofN X) (ws_ofN Y) (by omega) (by omega) (by omega), bind_s, val_ofN, val_ofN]
 by_cases g : Y ≤ X
 ·rw [if_pos (cmpI_ge.2 g), rsub_eq _ _ k (ws_ofN X) (ws_ofN Y) (by omega) (by omega) (by rw [val_ofN, val_ofN]; exact g) (by omega), bind_s, val_ofN, val_ofN]
  have M3 : (ofN (X - Y)).length < 17592186044000 := by have := ofN_len_le (Nat.sub_le X Y); omega
  rw [rForm_eq s1 _ E k (ws_ofN _) M3 (by omega) (by omega) (by omega), bind_s, val_ofN, r2 hs g]
 have g' : X ≤ Y := by omega
 rw [if_neg (fun c => g (cmpI_ge.1 c)), rsub_eq _ _ k (ws_ofN Y) (ws_ofN X) (by omega) (by omega) (by rw [val_ofN, val_ofN]; exact g') (by omega), bind_s, val_ofN, val_ofN]
 have M3 : (ofN (Y - X)).length < 17592186044000 := by have := ofN_len_le (Nat.sub_le Y X); omega
 rw [rForm_eq s2 _ E k (ws_ofN _) M3 (by omega) (by omega) (by omega), bind_s, val_ofN, r3 hs g']
theorem rLess_eq' (s1 s2 : Bool) (l1 l2 : List Int) (e1 e2 : Int) (k : Nat) (h1 : Rt l1 e1) (h2 : Rs l2 e2) (hk : 200000000000000000 ≤ k) : ulpref04_Less.f k s1 l1 e1 s2 l2 e2 = some (cz (vl s1 l1 e1 - vl s2 l2 e2) lowE) := by
 unfold ulpref04_Less.f
 rw [rNeg_eq s2 l2 e2 k h2.t (by omega), bind_s, rPlus_eq _ _ _ _ _ _ k h1 (rt_cf _ h2.sm (by have := h2.lo; omega) (by have := h2.hi; omega)) hk, bind_s, vl_cf h2.t.lowE, sg_neg, Vz_neg]
 rfl
end Go.Proofs.YtemfckibdojbbaaDoor.Nf

namespace Go.Proofs.YtemfckibdojbbaaDoor.Nf
open Go.RowKit Go.Proofs.YtemfckibdojbbaaDoor.PAll Go.Proofs.YtemfckibdojbbaaDoorW.PrintWords Go.Proofs.YtemfckibdojbbaaDoorW.PrintLast Go.Proofs.YtemfckibdojbbaaDoorW.PrintMore Go.Proofs.YtemfckibdojbbaaDoor.Nm
set_option linter.unusedVariables false
set_option linter.unusedSimpArgs false
def am (n : Nat) (e : Int) : Nat := n * 2 ^ (e - lowE).toNat
theorem Vz_am (s : Bool) (n : Nat) (e : Int) : Vz (sg s n) e = sg s (am n e) := by unfold Vz am; rw [sg_shl]
end Go.Proofs.YtemfckibdojbbaaDoor.Nf

namespace Go.Proofs.YtemfckibdojbbaaDoor.Nf
open Go.RowKit Go.Proofs.YtemfckibdojbbaaDoor.PAll Go.Proofs.YtemfckibdojbbaaDoorW.PrintWords Go.Proofs.YtemfckibdojbbaaDoorW.PrintLast Go.Proofs.YtemfckibdojbbaaDoorW.PrintMore Go.Proofs.YtemfckibdojbbaaDoor.Nm
set_option linter.unusedVariables false
set_option linter.unusedSimpArgs false
noncomputable def cutS (s : Bool) (n : Nat) (e p : Int) (up : Bool) : Bool × List Int × Int :=
 if (bl (od n) : Int) ≤ p then cf s n e else cf s (od n / 2 ^ (bl (od n) - p).toNat + if (up != s) = true then 1 else 0) (e + (tz n : Int) + (bl (od n) - p))
theorem od_odd {n : Nat} (h : n ≠ 0) (j : Nat) (hj : 0 < j) : od n % 2 ^ j ≠ 0 := by
 obtain ⟨t, m, e⟩ := low_form n h
 rw [od_eq e]
 have := (low_mod_ne 0 m j).2 hj
 rwa [Nat.pow_zero, Nat.one_mul] at this
theorem od_zero : od 0 = 0 := by unfold od; rw [Nat.zero_div]
theorem len_succ {a m : Nat} (h : (ofN a).length ≤ m) (hm : 1 ≤ m) (c : Nat) (hc : c ≤ 1) : (ofN (a + c)).length ≤ m + 1 := by
 refine len_add h (Nat.le_trans ?_ hm)
 rw [ofN_len]
 exact Nat.lt_of_le_of_lt hc (by decide)
theorem One_wlen : Ws (ofN 1) ∧ (ofN 1).length < 17592186044000 := ⟨ws_ofN 1, by have := (ofN_len 1 1).2 (by decide); omega⟩
theorem lOf1 : limbs_Of.f 1 = some (ofN 1) := lOf_eq 1 (by decide)
theorem rOf1 (k : Nat) (hk : 1 < k) : ulpref03_Of.f k 1 = some (ofN 1) := Of_eq 1 k (by decide) hk
theorem Cut_eq (s : Bool) (l : List Int) (e p : Int) (up : Bool) (k : Nat) (h : Rt l e) (hp : 1 ≤ p) (hp2 : p < 9223372036854775808) (hk : 100000000000000000 ≤ k) : raw_Cut.f k s l e p up = some (cutS s (val l) e p up) := by
 unfold raw_Cut.f cutS
 rw [One_eq s l e k h hk, bind_s]
 have b1 := h.lo; have b2 := h.hi; have b3 := h.sm
 generalize val l = n at *
 by_cases z : n = 0
 ·have : (cf s n e).2.1 = [] := by rw [z, cf_zero]
  rw [this, lLen_eq [] k ws_nil (by simp) (by simp; omega), bind_s, val_nil, bl_zero, wrapS (by omega) (by omega), if_pos (by omega), z, od_zero, bl_zero, if_pos (by omega), cf_zero]
 rw [cf_ne z]
 have hl := len_od n
 have t1 := tz_small z b3
 have hb := bl_len (Nat.le_trans hl b3)
 have ho := od_ne z
 show ((limbs_Len.f k (ofN (od n))).bind _) = _
 rw [lLen_eq (ofN (od n)) k (ws_ofN _) (by omega) (by omega), bind_s, val_ofN]
 by_cases g : (bl (od n) : Int) ≤ p
 ·rw [wrapS (by omega) (by omega), if_pos (by omega), if_pos g]
 have eN : wrap64 ((bl (od n) : Int) - p) = (((bl (od n) - p).toNat : Nat) : Int) := by rw [wrapS (by omega) (by omega)]; omega
 have eN2 : (((bl (od n) - p).toNat : Nat) : Int) = (bl (od n) : Int) - p := by omega
 have N1 : ((bl (od n) : Int) - p).toNat < 4611686018427387904 := by omega
 have hE : wrap64 (e + (tz n : Int) + (((bl (od n) - p).toNat : Nat) : Int)) = e + (tz n : Int) + (bl (od n) - p) := by rw [wrapS (by omega) (by omega)]; omega
 have E1 : -1000000000000000000 ≤ e + (tz n : Int) + (bl (od n) - p) := by omega
 have E2 : e + (tz n : Int) + (bl (od n) - p) ≤ 1000000000000000000 := by omega
 have hd := ofN_len_le (Nat.div_le_self (od n) (2 ^ ((bl (od n) : Int) - p).toNat))
 have g0 : ¬ (((bl (od n) - p).toNat : Nat) : Int) ≤ 0 := by omega
 rw [eN, if_neg g0, if_neg g, lShr_eq (ofN (od n)) _ k (ws_ofN _) N1 (by omega) (by omega), bind_s, val_ofN]
 show (if (up != s) = true then _ else _) = _
 generalize od n / 2 ^ ((bl (od n) : Int) - p).toNat = v at *
 by_cases u : (up != s) = true
 ·rw [if_pos u, if_pos u, lOf1, bind_s]
  have := One_wlen.2
  have hs := len_succ (a := v) (m := 8193) (by omega) (by omega) 1 (by omega)
  show (limbs_Add.f k (ofN v) (ofN 1)).bind _ = _
  rw [lAdd_eq _ _ (ws_ofN v) (ws_ofN 1) (by omega) this k (by omega), bind_s, val_ofN, val_ofN]
  show (raw_Form.f k s (ofN (v + 1)) (wrap64 (e + (tz n : Int) + (((bl (od n) - p).toNat : Nat) : Int)))).bind _ = _
  rw [hE, Form_eq s _ _ k (ws_ofN _) (by omega) E1 E2 hk, bind_s, val_ofN]
 rw [if_neg u, if_neg u]
 show (raw_Form.f k s (ofN v) (wrap64 (e + (tz n : Int) + (((bl (od n) - p).toNat : Nat) : Int)))).bind _ = _
 rw [hE, Form_eq s _ _ k (ws_ofN _) (by omega) E1 E2 hk, bind_s, val_ofN, Nat.add_zero]
theorem rTrim_eq (s : Bool) (l : List Int) (e p : Int) (up : Bool) (k : Nat) (h : Rt l e) (hp : 1 ≤ p) (hp2 : p < 9223372036854775808) (hk : 200000000000000000 ≤ k) : ulpref04_Trim.f k s l e p up = some (cutS s (val l) e p up) := by
 unfold ulpref04_Trim.f cutS
 rw [rOne_eq s l e k h (by omega), bind_s]
 have b1 := h.lo; have b2 := h.hi; have b3 := h.sm
 generalize val l = n at *
 by_cases z : n = 0
 ·have : (cf s n e).2.1 = [] := by rw [z, cf_zero]
  rw [this, rlen_eq [] k ws_nil (by simp) (by simp; omega), bind_s, val_nil, bl_zero, if_pos (by omega), z, od_zero, bl_zero, if_pos (by omega), cf_zero]
 rw [cf_ne z]
 have hl := len_od n
 have t1 := tz_small z b3
 have hb := bl_len (Nat.le_trans hl b3)
 have ho := od_ne z
 show ((ulpref03_Len.f k (ofN (od n))).bind _) = _
 rw [rlen_eq (ofN (od n)) k (ws_ofN _) (by omega) (by omega), bind_s, val_ofN]
 by_cases g : (bl (od n) : Int) ≤ p
 ·rw [if_pos g, if_pos g]
 have eN : wrap64 ((bl (od n) : Int) - p) = (((bl (od n) - p).toNat : Nat) : Int) := by rw [wrapS (by omega) (by omega)]; omega
 have N1 : ((bl (od n) : Int) - p).toNat < 4611686018427387904 := by omega
 have N0 : 0 < ((bl (od n) : Int) - p).toNat := by omega
 have hE : wrap64 (wrap64 (e + (tz n : Int) + (bl (od n) : Int)) - p) = e + (tz n : Int) + (bl (od n) - p) := by
  rw [wrapS (x := e + (tz n : Int) + (bl (od n) : Int)) (by omega) (by omega), wrapS (by omega) (by omega)]; omega
 have E1 : -1000000000000000000 ≤ e + (tz n : Int) + (bl (od n) - p) := by omega
 have E2 : e + (tz n : Int) + (bl (od n) - p) ≤ 1000000000000000000 := by omega
 have hd := ofN_len_le (Nat.div_le_self (od n) (2 ^ ((bl (od n) : Int) - p).toNat))
 have lost := decide_eq_true (od_odd z _ N0)
 rw [eN, if_neg g, if_neg g, rshr_eq (ofN (od n)) _ k (ws_ofN _) (by omega) (by omega) (by omega), bind_s, val_ofN]
 rw [lost, if_pos rfl]
 obtain ⟨k, rfl⟩ : ∃ m, k = m + 1 := ⟨k - 1, by omega⟩
 show ulpref04_Trim.j0 (k + 1) p (bl (od n) : Int) (ofN (od n / 2 ^ ((bl (od n) : Int) - p).toNat)) (up != s) s (ofN (od n)) (e + (tz n : Int)) = _
 simp only [ulpref04_Trim.j0]
 generalize od n / 2 ^ ((bl (od n) : Int) - p).toNat = v at *
 rw [hE]
 by_cases u : (up != s) = true
 ·rw [if_pos u, if_pos u, rOf1 k (by omega), bind_s]
  have := One_wlen.2
  have hs := len_succ (a := v) (m := 8193) (by omega) (by omega) 1 (by omega)
  rw [radd_eq _ _ k (ws_ofN v) (ws_ofN 1) (by omega) this (by omega), bind_s, val_ofN, val_ofN, rForm_eq s _ _ k (ws_ofN _) (by omega) E1 E2 (by omega), bind_s, val_ofN]
 rw [if_neg u, if_neg u, rForm_eq s _ _ k (ws_ofN _) (by omega) E1 E2 (by omega), bind_s, val_ofN, Nat.add_zero]
noncomputable def flS (s : Bool) (n : Nat) (e : Int) : Bool × List Int × Int :=
 if n = 0 ∨ 0 ≤ e + (tz n : Int) then cf s n e else cf s (od n / 2 ^ (-(e + (tz n : Int))).toNat + if s = true then 1 else 0) 0
theorem Floor_eq (s : Bool) (l : List Int) (e : Int) (k : Nat) (h : Rt l e) (hk : 200000000000000000 ≤ k) : raw_Floor.f k s l e = some (flS s (val l) e) := by
 unfold raw_Floor.f flS
 rw [One_eq s l e k h (by omega), bind_s]
 have b1 := h.lo; have b2 := h.hi; have b3 := h.sm
 generalize val l = n at *
 by_cases z : n = 0
 ·have : (cf s n e).2.2 = 0 := by rw [z, cf_zero]
  rw [this, if_pos (by omega), if_pos (.inl z), z, cf_zero]
 have hl := len_od n
 have t1 := tz_small z b3
 by_cases g : 0 ≤ e + (tz n : Int)
 ·have : (cf s n e).2.2 ≥ 0 := by rw [cf_ne z]; exact g
  rw [if_pos this, if_pos (.inr g)]
 have : ¬ (cf s n e).2.2 ≥ 0 := by rw [cf_ne z]; exact g
 rw [if_neg this, if_neg (fun c => c.elim z g), cf_ne z]
 have eN : wrap64 (-(e + (tz n : Int))) = (((-(e + (tz n : Int))).toNat : Nat) : Int) := by rw [wrapS (by omega) (by omega)]; omega
 have N1 : (-(e + (tz n : Int))).toNat < 4611686018427387904 := by omega
 have N0 : 0 < (-(e + (tz n : Int))).toNat := by omega
 have hd := ofN_len_le (Nat.div_le_self (od n) (2 ^ (-(e + (tz n : Int))).toNat))
 have lost := decide_eq_true (od_odd z _ N0)
 show (limbs_Shr.f k (ofN (od n)) (wrap64 (-(e + (tz n : Int))))).bind _ = _
 rw [eN, lShr_eq (ofN (od n)) _ k (ws_ofN _) N1 (by omega) (by omega), bind_s, val_ofN, lost, if_pos rfl]
 obtain ⟨k, rfl⟩ : ∃ m, k = m + 1 := ⟨k - 1, by omega⟩
 generalize od n / 2 ^ (-(e + (tz n : Int))).toNat = v at *
 show raw_Floor.j0 (k + 1) (ofN v) s s (ofN (od n)) (e + (tz n : Int)) = _
 simp only [raw_Floor.j0]
 by_cases u : s = true
 ·rw [if_pos u, if_pos u, lOf1, bind_s]
  have := One_wlen.2
  have hs := len_succ (a := v) (m := 8193) (by omega) (by omega) 1 (by omega)
  rw [lAdd_eq _ _ (ws_ofN v) (ws_ofN 1) (by omega) this k (by omega), bind_s, val_ofN, val_ofN, Form_eq s _ _ k (ws_ofN _) (by omega) (by omega) (by omega) (by omega), bind_s, val_ofN]
 rw [if_neg u, if_neg u, Form_eq s _ _ k (ws_ofN _) (by omega) (by omega) (by omega) (by omega), bind_s, val_ofN, Nat.add_zero]
theorem rWhole_eq (s : Bool) (l : List Int) (e : Int) (k : Nat) (h : Rt l e) (hk : 200000000000000000 ≤ k) : ulpref04_Whole.f k s l e = some (flS s (val l) e) := by
 unfold ulpref04_Whole.f flS
 rw [rOne_eq s l e k h (by omega), bind_s]
 have b1 := h.lo; have b2 := h.hi; have b3 := h.sm
 generalize val l = n at *
 by_cases z : n = 0
 ·have : (cf s n e).2.2 = 0 := by rw [z, cf_zero]
  rw [this, if_pos (by omega), if_pos (.inl z), z, cf_zero]
 have hl := len_od n
 have t1 := tz_small z b3
 by_cases g : 0 ≤ e + (tz n : Int)
 ·have : (cf s n e).2.2 ≥ 0 := by rw [cf_ne z]; exact g
  rw [if_pos this, if_pos (.inr g)]
 have : ¬ (cf s n e).2.2 ≥ 0 := by rw [cf_ne z]; exact g
 rw [if_neg this, if_neg (fun c => c.elim z g), cf_ne z]
 have eN : wrap64 (-(e + (tz n : Int))) = (((-(e + (tz n : Int))).toNat : Nat) : Int) := by rw [wrapS (by omega) (by omega)]; omega
 have N1 : (-(e + (tz n : Int))).toNat < 4611686018427387904 := by omega
 have N0 : 0 < (-(e + (tz n : Int))).toNat := by omega
 have hd := ofN_len_le (Nat.div_le_self (od n) (2 ^ (-(e + (tz n : Int))).toNat))
 have lost := decide_eq_true (od_odd z _ N0)
 show (ulpref03_Shr.f k (ofN (od n)) (wrap64 (-(e + (tz n : Int))))).bind _ = _
 rw [eN, rshr_eq (ofN (od n)) _ k (ws_ofN _) (by omega) (by omega) (by omega), bind_s, val_ofN, lost, if_pos rfl]
 obtain ⟨k, rfl⟩ : ∃ m, k = m + 1 := ⟨k - 1, by omega⟩
 generalize od n / 2 ^ (-(e + (tz n : Int))).toNat = v at *
 show ulpref04_Whole.j0 (k + 1) (ofN v) s s (ofN (od n)) (e + (tz n : Int)) = _
 simp only [ulpref04_Whole.j0]
 by_cases u : s = true
 ·rw [if_pos u, if_pos u, rOf1 k (by omega), bind_s]
  have := One_wlen.2
  have hs := len_succ (a := v) (m := 8193) (by omega) (by omega) 1 (by omega)
  rw [radd_eq _ _ k (ws_ofN v) (ws_ofN 1) (by omega) this (by omega), bind_s, val_ofN, val_ofN, rForm_eq s _ _ k (ws_ofN _) (by omega) (by omega) (by omega) (by omega), bind_s, val_ofN]
 rw [if_neg u, if_neg u, rForm_eq s _ _ k (ws_ofN _) (by omega) (by omega) (by omega) (by omega), bind_s, val_ofN, Nat.add_zero]
end Go.Proofs.YtemfckibdojbbaaDoor.Nf

namespace Go.Proofs.YtemfckibdojbbaaDoor.Nf
open Go.RowKit Go.Proofs.YtemfckibdojbbaaDoor.PAll Go.Proofs.YtemfckibdojbbaaDoorW.PrintWords Go.Proofs.YtemfckibdojbbaaDoorW.PrintLast Go.Proofs.YtemfckibdojbbaaDoorW.PrintMore Go.Proofs.YtemfckibdojbbaaDoor.Nm
set_option linter.unusedVariables false
set_option linter.unusedSimpArgs false
theorem begins_eq (k : Nat) (hk : 1000 ≤ k) : ulplaw04_begins.f k = some true :=
 at_rounds ulplaw04_begins.mono hk (by decide +kernel)
structure Wl (l : List Int) : Prop where
 ws : Ws l
 len : l.length < 17592186044000
theorem wl_nil : Wl [] := ⟨ws_nil, by simp⟩
theorem wl_ofN {v : Nat} (h : (ofN v).length < 17592186044000) : Wl (ofN v) := ⟨ws_ofN v, h⟩
theorem wl_cf (s : Bool) {n : Nat} (e : Int) (h : (ofN n).length < 17592186044000) : Wl (cf s n e).2.1 := by
 by_cases z : n = 0
 ·rw [z, cf_zero]; exact wl_nil
 rw [cf_ne z]; exact wl_ofN (Nat.lt_of_le_of_lt (len_od n) h)
theorem wl_cz {Z : Int} (e : Int) (h : (ofN Z.natAbs).length < 17592186044000) : Wl (cz Z e).2.1 := wl_cf _ _ h
theorem Rs.wl {l : List Int} {e : Int} (h : Rs l e) : Wl l := ⟨h.ws, h.len⟩
theorem Rt.wl {l : List Int} {e : Int} (h : Rt l e) : Wl l := ⟨h.ws, h.len⟩
def bad (c : Int) : Bool × List Int × Int × Int := (false, [], 0, c)
noncomputable def canonS (s : Bool) (n : Nat) (e : Int) : Bool × List Int × Int × Int := if fits n e = true then roomS (cf s n e) else bad 2
theorem rs_len {l : List Int} {e : Int} (h : Rs l e) : (ofN (val l)).length < 17592186044000 := by have := h.sm; omega
theorem Canon_eq (s : Bool) (l : List Int) (e : Int) (k : Nat) (w : Wl l) (hk : 200000000000000000 ≤ k) : dyad_Canon.f k s l e = some (canonS s (val l) e) := by
 unfold dyad_Canon.f canonS
 rw [right_eq s l e k w.ws w.len (by omega), bind_s]
 by_cases h : fits (val l) e = true
 ·have g := rs_fits w.ws w.len h
  have c := wl_cf s e (rs_len g)
  rw [if_pos h, if_pos h]
  unfold dyad_number_same.f
  rw [One_eq s l e k g.t (by omega), bind_s, bind_s, room_eq _ _ _ k c.ws c.len (by omega), bind_s]
 rw [if_neg h, if_neg h]; rfl
theorem rCanon_eq (s : Bool) (l : List Int) (e : Int) (k : Nat) (w : Wl l) (hk : 200000000000000000 ≤ k) : ulpref04_Canon.f k s l e = some (canonS s (val l) e) := by
 unfold ulpref04_Canon.f canonS
 rw [rRight_eq s l e k w.ws w.len (by omega), bind_s]
 by_cases h : fits (val l) e = true
 ·have g := rs_fits w.ws w.len h
  have c := wl_cf s e (rs_len g)
  rw [if_pos h, if_pos h, rOne_eq s l e k g.t (by omega), bind_s, rroom_eq _ _ _ k c.ws c.len (by omega), bind_s]
 rw [if_neg h, if_neg h]; rfl
theorem am_len {n : Nat} {e : Int} (h : (ofN n).length ≤ 16384) (h1 : e ≤ 2000000) : (ofN (am n e)).length ≤ 120000 := by
 refine Nat.le_trans (len_shl h _) ?_
 have : (e - lowE).toNat ≤ 6000000 := by unfold lowE; omega
 omega
theorem vl_abs (s : Bool) (l : List Int) (e : Int) : (vl s l e).natAbs = am (val l) e := by unfold vl; rw [Vz_am, sg_abs]
theorem len_vadd {s1 s2 : Bool} {l1 l2 : List Int} {e1 e2 : Int} (h1 : Rt l1 e1) (h2 : Rt l2 e2) : (ofN (vl s1 l1 e1 + vl s2 l2 e2).natAbs).length ≤ 120001 := by
 have a := am_len (n := val l1) (e := e1) (by have := h1.sm; omega) (by have := h1.hi; omega)
 have b := am_len (n := val l2) (e := e2) (by have := h2.sm; omega) (by have := h2.hi; omega)
 have c : (vl s1 l1 e1 + vl s2 l2 e2).natAbs ≤ am (val l1) e1 + am (val l2) e2 := by
  have := Int.natAbs_add_le (vl s1 l1 e1) (vl s2 l2 e2)
  rwa [vl_abs, vl_abs] at this
 exact Nat.le_trans (ofN_len_le c) (len_add a b)
theorem len_vsub {s1 s2 : Bool} {l1 l2 : List Int} {e1 e2 : Int} (h1 : Rt l1 e1) (h2 : Rt l2 e2) : (ofN (vl s1 l1 e1 - vl s2 l2 e2).natAbs).length ≤ 120001 := by
 have := len_vadd (s1 := s1) (s2 := !s2) h1 h2
 rwa [vl_neg, ← Int.sub_eq_add_neg] at this
noncomputable def cutAS (s : Bool) (n : Nat) (e p : Int) (up : Bool) : Bool × List Int × Int × Int := if fits n e = true ∧ 1 ≤ p then roomS (cutS s n e p up) else bad 2
theorem wl_cut (s : Bool) {n : Nat} (e p : Int) (up : Bool) (h : (ofN n).length ≤ 2000) : Wl (cutS s n e p up).2.1 := by
 unfold cutS
 split
 ·exact wl_cf _ _ (by omega)
 refine wl_cf _ _ ?_
 have a := ofN_len_le (Nat.div_le_self (od n) (2 ^ ((bl (od n) : Int) - p).toNat))
 have b := len_od n
 generalize od n / 2 ^ ((bl (od n) : Int) - p).toNat = v at *
 have c : ∀ c, c ≤ 1 → (ofN (v + c)).length ≤ 2000 + 1 := fun c hc => len_succ (by omega) (by omega) c hc
 split
 ·have := c 1 (Nat.le_refl _); omega
 have := c 0 (by omega); omega
theorem dCut_eq (s : Bool) (l : List Int) (e p : Int) (up : Bool) (k : Nat) (w : Wl l) (hp2 : p < 9223372036854775808) (hk : 200000000000000000 ≤ k) : dyad_Cut.f k s l e p up = some (cutAS s (val l) e p up) := by
 unfold dyad_Cut.f cutAS
 by_cases q : p < 1
 ·rw [if_pos q, if_neg (fun c => by omega)]; rfl
 rw [if_neg q, right_eq s l e k w.ws w.len (by omega), bind_s]
 by_cases h : fits (val l) e = true
 ·have g := rs_fits w.ws w.len h
  have c := wl_cut s e p up g.sm
  rw [if_pos h, if_pos ⟨h, by omega⟩, Cut_eq s l e p up k g.t (by omega) hp2 (by omega), bind_s, room_eq _ _ _ k c.ws c.len (by omega), bind_s]
 rw [if_neg h, if_neg (fun c => h c.1)]; rfl
theorem rCut_eq (s : Bool) (l : List Int) (e p : Int) (up : Bool) (k : Nat) (w : Wl l) (hp2 : p < 9223372036854775808) (hk : 300000000000000000 ≤ k) : ulpref04_Cut.f k s l e p up = some (cutAS s (val l) e p up) := by
 unfold ulpref04_Cut.f cutAS
 rw [rRight_eq s l e k w.ws w.len (by omega), bind_s]
 obtain ⟨k, rfl⟩ : ∃ m, k = m + 1 := ⟨k - 1, by omega⟩
 simp only [ulpref04_Cut.j0]
 by_cases h : fits (val l) e = true
 ·have g := rs_fits w.ws w.len h
  have c := wl_cut s e p up g.sm
  rw [if_pos h]
  by_cases q : p < 1
  ·rw [if_pos (decide_eq_true q), if_neg (fun c => by omega)]; rfl
  rw [if_neg (by rw [decide_eq_true_iff]; exact q), if_pos ⟨h, by omega⟩, rTrim_eq s l e p up k g.t (by omega) hp2 (by omega), bind_s, rroom_eq _ _ _ k c.ws c.len (by omega), bind_s]
 rw [if_neg h, if_pos trivial, if_neg (fun c => h c.1)]; rfl
end Go.Proofs.YtemfckibdojbbaaDoor.Nf

namespace Go.Proofs.YtemfckibdojbbaaDoor.Nf
open Go.RowKit Go.Proofs.YtemfckibdojbbaaDoor.PAll Go.Proofs.YtemfckibdojbbaaDoorW.PrintWords Go.Proofs.YtemfckibdojbbaaDoorW.PrintLast Go.Proofs.YtemfckibdojbbaaDoorW.PrintMore Go.Proofs.YtemfckibdojbbaaDoor.Nm
set_option linter.unusedVariables false
set_option linter.unusedSimpArgs false
theorem wsame (s : Bool) {l : List Int} (e : Int) (k : Nat) (w : Wl l) (hk : 100000000000000000 ≤ k) : ulpref04_Same.f k s l e s l e = some true := by
  have := w.len
  unfold ulpref04_Same.f
  rw [if_pos (by simp), if_pos rfl, same_eq l k (by omega) (by omega), bind_s]
theorem wlr {d : Bool × List Int × Int} (h : Wl d.2.1) : Wl (roomS d).2.1 := by
  unfold roomS; split
  · exact h
  exact wl_nil
theorem wl_bad (c : Int) : Wl (bad c).2.1 := wl_nil
theorem wl_cutA (s : Bool) {l : List Int} (e p : Int) (up : Bool) (w : Wl l) : Wl (cutAS s (val l) e p up).2.1 := by
  unfold cutAS; split
  · rename_i h; exact wlr (wl_cut s e p up (rs_fits w.ws w.len h.1).sm)
  exact wl_bad 2
theorem rs_cf (s : Bool) {n : Nat} {e : Int} (hn : (ofN n).length ≤ 1100) (h0 : -40000 ≤ e) (h1 : e ≤ 40000) : Rs (cf s n e).2.1 (cf s n e).2.2 := by
  by_cases h : n = 0
  · rw [h, cf_zero]; exact ⟨ws_nil, by simp, by rw [val_nil, ofN_zero]; simp, by show (-200000 : Int) ≤ 0; omega, by show (0 : Int) ≤ 200000; omega⟩
  rw [cf_ne h]
  have a := len_od n
  have t := tz_lt h
  have b := bl_len hn
  refine ⟨ws_ofN _, ?_, ?_, ?_, ?_⟩
  · show (ofN (od n)).length < _; omega
  · show (ofN (val (ofN (od n)))).length ≤ _; rw [val_ofN]; omega
  · show -200000 ≤ e + (tz n : Int); omega
  show e + (tz n : Int) ≤ 200000; omega
theorem rs_fl (s : Bool) {n : Nat} {e : Int} (h : fits n e = true) : Rs (flS s n e).2.1 (flS s n e).2.2 := by
  obtain ⟨a, b, c⟩ := fits_iff.1 h
  have hl := len_big a
  unfold flS
  split
  · exact rs_cf s (by omega) (by omega) (by omega)
  refine rs_cf s ?_ (by omega) (by omega)
  have u := ofN_len_le (Nat.div_le_self (od n) (2 ^ (-(e + (tz n : Int))).toNat))
  have v := len_od n
  generalize od n / 2 ^ (-(e + (tz n : Int))).toNat = q at *
  have c : ∀ c, c ≤ 1 → (ofN (q + c)).length ≤ 1024 + 1 := fun c hc => len_succ (by omega) (by omega) c hc
  split
  · have := c 1 (Nat.le_refl _); omega
  have := c 0 (by omega); omega
theorem canon_ok {s : Bool} {n : Nat} {e : Int} (h : (canonS s n e).2.2.2 = 0) : fits n e = true ∧ canonS s n e = ((cf s n e).1, (cf s n e).2.1, (cf s n e).2.2, 0) ∧ fits (val (cf s n e).2.1) (cf s n e).2.2 = true := by
  unfold canonS at *
  by_cases g : fits n e = true
  · rw [if_pos g] at h ⊢
    unfold roomS at *
    by_cases f : fits (val (cf s n e).2.1) (cf s n e).2.2 = true
    · rw [if_pos f]; exact ⟨g, rfl, f⟩
    rw [if_neg f] at h; cases h
  rw [if_neg g] at h; cases h
noncomputable def floorAS (s : Bool) (n : Nat) (e : Int) : Bool × List Int × Int × Bool × List Int × Int × Int :=
  if (canonS s n e).2.2.2 = 0 then
    (let c := cf s n e
     let w := flS c.1 (val c.2.1) c.2.2
     let r := cz (vl c.1 c.2.1 c.2.2 - vl w.1 w.2.1 w.2.2) lowE
     if fits (val w.2.1) w.2.2 = true ∧ fits (val r.2.1) r.2.2 = true then (w.1, w.2.1, w.2.2, r.1, r.2.1, r.2.2, 0) else (false, [], 0, false, [], 0, 3))
  else (false, [], 0, false, [], 0, (canonS s n e).2.2.2)
theorem cf_rs (s : Bool) {l : List Int} {e : Int} (w : Wl l) (h : fits (val l) e = true) : Rs (cf s (val l) e).2.1 (cf s (val l) e).2.2 := by
  obtain ⟨a, b, c⟩ := fits_iff.1 h
  exact rs_cf s (by have := len_big a; omega) (by omega) (by omega)
theorem dFloor_eq (s : Bool) (l : List Int) (e : Int) (k : Nat) (w : Wl l) (hk : 300000000000000000 ≤ k) : dyad_Floor.f k s l e = some (floorAS s (val l) e) := by
  unfold dyad_Floor.f floorAS
  rw [Canon_eq s l e k w (by omega), bind_s]
  by_cases h : (canonS s (val l) e).2.2.2 = 0
  · obtain ⟨g, hc, f⟩ := canon_ok h
    have rc := cf_rs s w g
    rw [if_pos h, if_pos h, hc]
    generalize cf s (val l) e = c at *
    have rw_ := rs_fl c.1 f
    show (raw_Floor.f k c.1 c.2.1 c.2.2).bind _ = _
    rw [Floor_eq _ _ _ k rc.t (by omega), bind_s]
    simp only []
    generalize flS c.1 (val c.2.1) c.2.2 = v at *
    show (raw_Sub.f k c.1 c.2.1 c.2.2 v.1 v.2.1 v.2.2).bind _ = _
    have wr := wl_cz (Z := vl c.1 c.2.1 c.2.2 - vl v.1 v.2.1 v.2.2) lowE (Nat.lt_of_le_of_lt (len_vsub rc.t rw_.t) (by decide))
    rw [Sub_eq _ _ _ _ _ _ k rc.t rw_ (by omega), bind_s, Fits_eq _ _ _ k rw_.ws rw_.len (by omega), bind_s]
    generalize cz (vl c.1 c.2.1 c.2.2 - vl v.1 v.2.1 v.2.2) lowE = r at *
    rw [Fits_eq _ _ _ k wr.ws wr.len (by omega), bind_s]
    by_cases a : fits (val v.2.1) v.2.2 = true
    · rw [if_pos a]
      by_cases b : fits (val r.2.1) r.2.2 = true
      · rw [if_pos b, if_pos ⟨a, b⟩]
      rw [if_neg b, if_neg (fun c => b c.2)]
    rw [if_neg a, if_neg (fun c => a c.1)]
  rw [if_neg h, if_neg h]
theorem rFloor_eq (s : Bool) (l : List Int) (e : Int) (k : Nat) (w : Wl l) (hk : 300000000000000000 ≤ k) : ulpref04_Floor.f k s l e = some (floorAS s (val l) e) := by
  unfold ulpref04_Floor.f floorAS
  rw [rCanon_eq s l e k w (by omega), bind_s]
  by_cases h : (canonS s (val l) e).2.2.2 = 0
  · obtain ⟨g, hc, f⟩ := canon_ok h
    have rc := cf_rs s w g
    rw [if_pos h, if_pos h, hc]
    generalize cf s (val l) e = c at *
    have rw_ := rs_fl c.1 f
    show (ulpref04_Whole.f k c.1 c.2.1 c.2.2).bind _ = _
    rw [rWhole_eq _ _ _ k rc.t (by omega), bind_s]
    simp only []
    generalize flS c.1 (val c.2.1) c.2.2 = v at *
    show (ulpref04_Less.f k c.1 c.2.1 c.2.2 v.1 v.2.1 v.2.2).bind _ = _
    have wr := wl_cz (Z := vl c.1 c.2.1 c.2.2 - vl v.1 v.2.1 v.2.2) lowE (Nat.lt_of_le_of_lt (len_vsub rc.t rw_.t) (by decide))
    rw [rLess_eq' _ _ _ _ _ _ k rc.t rw_ (by omega), bind_s, rRight_eq _ _ _ k rw_.ws rw_.len (by omega), bind_s]
    generalize cz (vl c.1 c.2.1 c.2.2 - vl v.1 v.2.1 v.2.2) lowE = r at *
    rw [rRight_eq _ _ _ k wr.ws wr.len (by omega), bind_s]
    by_cases a : fits (val v.2.1) v.2.2 = true
    · rw [if_pos a]
      by_cases b : fits (val r.2.1) r.2.2 = true
      · rw [if_pos b, if_pos ⟨a, b⟩]
      rw [if_neg b, if_neg (fun c => b c.2)]
    rw [if_neg a, if_neg (fun c => a c.1)]
  rw [if_neg h, if_neg h]
theorem wl_floor (s : Bool) {l : List Int} (e : Int) (w : Wl l) : Wl (floorAS s (val l) e).2.1 ∧ Wl (floorAS s (val l) e).2.2.2.2.1 := by
  unfold floorAS
  by_cases h : (canonS s (val l) e).2.2.2 = 0
  · obtain ⟨g, hc, f⟩ := canon_ok h
    have rc := cf_rs s w g
    rw [if_pos h]
    generalize cf s (val l) e = c at *
    have rw_ := rs_fl c.1 f
    simp only []
    generalize flS c.1 (val c.2.1) c.2.2 = v at *
    have wr := wl_cz (Z := vl c.1 c.2.1 c.2.2 - vl v.1 v.2.1 v.2.2) lowE (Nat.lt_of_le_of_lt (len_vsub rc.t rw_.t) (by decide))
    generalize cz (vl c.1 c.2.1 c.2.2 - vl v.1 v.2.1 v.2.2) lowE = r at *
    split
    · exact ⟨rw_.wl, wr⟩
    exact ⟨wl_nil, wl_nil⟩
  rw [if_neg h]; exact ⟨wl_nil, wl_nil⟩
end Go.Proofs.YtemfckibdojbbaaDoor.Nf

namespace Go.Proofs.YtemfckibdojbbaaDoor.Pure
open Go.RowKit Go.Proofs.YtemfckibdojbbaaDoor.PAll Go.Proofs.YtemfckibdojbbaaDoorW.PrintWords Go.Proofs.YtemfckibdojbbaaDoorW.PrintLast Go.Proofs.YtemfckibdojbbaaDoorW.PrintMore
set_option linter.unusedVariables false
set_option linter.unusedSimpArgs false
open Go.Proofs.YtemfckibdojbbaaDoor.Nm Go.Proofs.YtemfckibdojbbaaDoor.Nf
theorem DyadCuts (s0 : Bool) (l0 : List Int) (e0 : Int) (a1 : Int) (a2 : Bool) (n0 : l0.length * 8 ≤ 140737488351232) (w0 : ∀ x ∈ l0, (Lit.int .u64 x).wf = true) (_ : (Lit.int .i64 e0).wf = true) (h1 : (Lit.int .i64 a1).wf = true) : ∃ k, ulplaw04_DyadCuts.f k s0 l0 e0 a1 a2 = some true := by
 have h0 : Wl l0 := ⟨ws_wf w0, by omega⟩
 have hp := (i64_wf h1).2
 obtain ⟨k, hk⟩ : ∃ k, k = 300000000000000000 := ⟨_, rfl⟩
 have hk0 : 300000000000000000 ≤ k := by omega
 clear hk
 refine ⟨k, ?_⟩
 obtain ⟨f1, f2⟩ := wl_floor s0 e0 h0
 unfold ulplaw04_DyadCuts.f
 rw [dCut_eq s0 l0 e0 a1 a2 k h0 hp (by omega), bind_s, rCut_eq s0 l0 e0 a1 a2 k h0 hp (by omega), bind_s, dFloor_eq s0 l0 e0 k h0 (by omega), bind_s, rFloor_eq s0 l0 e0 k h0 (by omega), bind_s, wsame _ _ k (wl_cutA s0 e0 a1 a2 h0) (by omega), bind_s, if_pos rfl, if_pos rfl, wsame _ _ k f1 (by omega), bind_s, if_pos rfl, wsame _ _ k f2 (by omega), bind_s, if_pos rfl, if_pos rfl, begins_eq k (by omega), bind_s]
end Go.Proofs.YtemfckibdojbbaaDoor.Pure
