/- Plain part. -/
import Derived.Test.YtemfckibdojbbaaDoorXDyadPartsN0
import Derived.Test.YtemfckibdojbbaaDoorXDyadPartsP1
import Derived.Test.YtemfckibdojbbaaDoorXDyadPartsP2
import Derived.Test.YtemfckibdojbbaaDoorXDyadPartsP14
import Derived.Test.YtemfckibdojbbaaDoorXDyadPartsP0
import Derived.Test.YtemfckibdojbbaaDoorXDyadPartsP3
import Derived.Test.YtemfckibdojbbaaDoorXDyadPartsP5
import Derived.Test.YtemfckibdojbbaaDoorXDyadPartsP13
import Derived.Test.YtemfckibdojbbaaDoorXDyadPartsP16
import Derived.Test.YtemfckibdojbbaaDoorXDyadPartsP19
import Derived.Test.YtemfckibdojbbaaDoorXDyadPartsP17
import Derived.Test.YtemfckibdojbbaaDoorXDyadPartsP9
import Derived.Test.YtemfckibdojbbaaDoorXDyadPartsP10
import Derived.Test.YtemfckibdojbbaaDoorXDyadPartsP18
import Derived.Test.YtemfckibdojbbaaDoorXDyadPartsP7
import Derived.Test.YtemfckibdojbbaaDoorXDyadPartsP6
import Derived.Test.YtemfckibdojbbaaDoorXDyadPartsP8
import Derived.Test.YtemfckibdojbbaaDoorXDyadPartsP15
import Derived.Test.YtemfckibdojbbaaDoorXDyadPartsP20
import Derived.Test.YtemfckibdojbbaaDoorXDyadPartsP11
import Derived.Test.YtemfckibdojbbaaDoorXDyadPartsP12
import Derived.Test.YtemfckibdojbbaaDoorXDyadPartsP21
import Derived.Test.YtemfckibdojbbaaDoorXDyadPartsP22
import Derived.Laws.StructEq
namespace Go.Proofs.YtemfckibdojbbaaDoor.Nf
open Go.RowKit Go.Proofs.YtemfckibdojbbaaDoor.PAll Go.Proofs.YtemfckibdojbbaaDoorW.PrintWords Go.Proofs.YtemfckibdojbbaaDoorW.PrintLast Go.Proofs.YtemfckibdojbbaaDoorW.PrintMore Go.Proofs.YtemfckibdojbbaaDoor.Nm
set_option linter.unusedVariables false
set_option linter.unusedSimpArgs false
theorem lshr_loop (A : List Int) (ha : Ws A) (s : Nat) (hs : s < 64) (lost : Bool) (na : A.length < 35184372088832) (r : Nat) : ∀ (j k : Nat) (o : List Int), A.length - j = r → j ≤ A.length → r + A.length + 3 < k → o.length = A.length → Ws o →
  2 ^ s * val (o.take j) + (A.getD 0 0).toNat % 2 ^ s = val (A.take j) + 18446744073709551616 ^ j * ((A.getD j 0).toNat % 2 ^ s) →
  limbs_Shr.l0 k A lost o s A (A.length : Int) j = some (ofN (val A / 2 ^ s), lost) := by
 induction r with
 | zero =>
  intro j k o hr hj hk ho hw hv
  obtain ⟨k, rfl⟩ : ∃ m, k = m + 1 := ⟨k - 1, by omega⟩
  obtain rfl : j = A.length := by omega
  simp only [limbs_Shr.l0]
  rw [if_neg (by omega), trim_eq _ _ hw (by omega) (by omega), bind_s]
  rw [getD_ge A A.length (by omega), val_take_ge o _ (by omega), val_take_ge A _ (by omega)] at hv
  have h0 : (A.getD 0 0).toNat % 2 ^ s < 2 ^ s := Nat.mod_lt _ (Nat.pow_pos (by decide))
  have := (shr_end h0 (show 2 ^ s * val o + (A.getD 0 0).toNat % 2 ^ s = val A by rw [hv]; simp)).1
  rw [this]
 | succ r ih =>
  intro j k o hr hj hk ho hw hv
  obtain ⟨k, rfl⟩ : ∃ m, k = m + 1 := ⟨k - 1, by omega⟩
  have i1 : A.length - (j + 1) = r := by omega
  have i2 : j + 1 ≤ A.length := by omega
  have i3 : r + A.length + 3 < k := by omega
  have i4 : j < o.length := by omega
  have g1 : (j : Int) < (A.length : Int) := by omega
  have g3 : (j : Int) < (o.length : Int) := by omega
  have g4 : ((j + 1 : Nat) : Int) < (A.length : Int) ↔ j + 1 < A.length := by omega
  have b3 : j < 4611686018427387904 := by omega
  have hs' : s ≤ 64 := by omega
  have hs6 : 64 - s ≤ 64 := by omega
  have hsp : (s : Int) > 0 ↔ 0 < s := by omega
  have hs1 : -9223372036854775808 ≤ (64 : Int) - (s : Int) := by omega
  have hs2 : (64 : Int) - (s : Int) < 9223372036854775808 := by omega
  have hs3 : (64 : Int) - (s : Int) = ((64 - s : Nat) : Int) := by omega
  have hs0 : ¬ 0 < s → s = 0 := by omega
  have hge : ¬ j + 1 < A.length → A.length ≤ j + 1 := by omega
  simp only [limbs_Shr.l0]
  rw [if_pos g1, if_pos (Int.natCast_nonneg _), if_pos g1, if_pos (Int.natCast_nonneg _), if_pos g3, wrap_succ b3, bind_s]
  simp only [rd_nat, Int.toNat_natCast]
  obtain ⟨p0, p1⟩ := ws_get ha j
  obtain ⟨p2, p3⟩ := ws_get ha (j + 1)
  have ew := asNat p0
  have ew' := asNat p2
  generalize hwn : (A.getD j 0).toNat = w at ew
  generalize hwn' : (A.getD (j + 1) 0).toNat = w' at ew'
  have w1 : w < 18446744073709551616 := Int.ofNat_lt.1 (ew ▸ p1)
  rw [ew, shr_eq _ _ hs', Nm.getD_set_eq _ _ _ i4, List.set_set]
  have key : ∀ v : Nat, v = w / 2 ^ s + 2 ^ (64 - s) * (w' % 2 ^ s) → limbs_Shr.l0 k A lost (o.set j (v : Int)) s A (A.length : Int) ((j + 1 : Nat) : Int) = some (ofN (val A / 2 ^ s), lost) := by
   intro v hv2
   have l1 : v < 18446744073709551616 := by rw [hv2]; exact shr_word_lt hs' w1
   refine ih (j + 1) k _ i1 i2 i3 (by rw [List.length_set]; exact ho) (ws_set hw _ (Int.natCast_nonneg _) (Int.ofNat_lt.2 l1)) ?_
   rw [val_set_take o j _ i4, take_succ_getD, hwn', hwn, Int.toNat_natCast, Nat.pow_succ]
   rw [hwn] at hv
   exact shr_step (pow_split hs') hv2 hv
  by_cases h : 0 < s
  ·rw [if_pos (hsp.2 h)]
   by_cases g : j + 1 < A.length
   ·rw [if_pos (g4.2 g), if_pos (Int.natCast_nonneg _), wrapS hs1 hs2, hs3, if_pos (Int.natCast_nonneg _), ew', or_shr h hs w1]
    exact key _ rfl
   rw [if_neg (fun x => g (g4.1 x))]
   refine key _ ?_
   rw [getD_ge A _ (hge g)] at hwn'
   have : w' = 0 := hwn'.symm
   rw [this]; simp
  have h00 := hs0 h
  rw [if_neg (fun x => h (hsp.1 x))]
  refine key _ ?_
  rw [h00]; simp [Nat.mod_one]
theorem low_mod_ne (t m n : Nat) : (2 ^ t * (2 * m + 1)) % 2 ^ n ≠ 0 ↔ t < n := by
 constructor
 ·intro h
  refine Classical.byContradiction fun g => h ?_
  rw [show t = n + (t - n) by omega, Nat.pow_add, Nat.mul_assoc]
  exact Nat.mul_mod_right _ _
 intro h e
 obtain ⟨c, hc⟩ := Nat.dvd_of_mod_eq_zero e
 rw [show n = t + (1 + (n - t - 1)) by omega, Nat.pow_add, Nat.pow_add, Nat.mul_assoc] at hc
 have := Nat.eq_of_mul_eq_mul_left (Nat.pow_pos (by decide)) hc
 rw [Nat.pow_one, Nat.mul_assoc] at this
 omega
theorem lShr_eq (a : List Int) (n k : Nat) (ha : Ws a) (hn : n < 4611686018427387904) (na : a.length < 17592186044000) (hk : 3 * a.length + 10 < k) :
  limbs_Shr.f k a n = some (ofN (val a / 2 ^ n), decide (val a % 2 ^ n ≠ 0)) := by
 unfold limbs_Shr.f
 have hl : (ofN (val a)).length ≤ a.length := (ofN_len (val a) a.length).2 (val_lt ha)
 rw [trim_eq a k ha (by omega) (by omega), bind_s]
 generalize hv : val a = v at *
 have wv : Ws (ofN v) := ws_ofN v
 by_cases h0 : v = 0
 ·subst h0
  rw [ofN_zero, if_pos (show ((([] : List Int).length : Nat) : Int) = 0 from rfl), Nat.zero_div, Nat.zero_mod, ofN_zero]; rfl
 obtain ⟨t, m, e⟩ := low_form v h0
 have hne : (ofN v).length ≠ 0 := fun h => h0 (ofN_zero_iff.1 h)
 have q0 : ¬ ((ofN v).length : Int) = 0 := by omega
 have ql : (ofN v).length < 17592186044000 := by omega
 have qk : 3 * (ofN v).length + 10 < k := by omega
 rw [if_neg q0, ((lLow_eq v k (by omega) (by omega)).2 t m e), bind_s]
 have hd : decide ((t : Int) < (n : Int)) = decide (v % 2 ^ n ≠ 0) := by
  rw [decide_eq_decide, e, low_mod_ne]; omega
 rw [hd]
 have e2 : Int.tmod (n : Int) 64 = ((n % 64 : Nat) : Int) := by
  rw [Int.tmod_eq_emod_of_nonneg (by omega)]; omega
 have en : n = 64 * (n / 64) + n % 64 := by omega
 have hs : n % 64 < 64 := by omega
 have e1 : wrap64 (Int.tdiv (n : Int) 64) = ((n / 64 : Nat) : Int) := by
  have a1 : (-9223372036854775808 : Int) ≤ ((n / 64 : Nat) : Int) := by omega
  have a2 : ((n / 64 : Nat) : Int) < 9223372036854775808 := by omega
  rw [Int.tdiv_eq_ediv_of_nonneg (Int.natCast_nonneg n)]
  exact wrapS a1 a2
 rw [e1, e2]
 generalize n / 64 = q at *
 generalize n % 64 = s at *
 generalize hL : (ofN v).length = L at *
 by_cases h : L ≤ q
 ·have q1 : (q : Int) ≥ (L : Int) := by omega
  rw [if_pos q1]
  have h1 : v < 2 ^ n := by
   have := (ofN_len v L).1 (Nat.le_of_eq hL)
   refine Nat.lt_of_lt_of_le this ?_
   have e : 18446744073709551616 ^ L = 2 ^ (64 * L) := by rw [Nat.pow_mul]
   rw [e]; exact Nat.pow_le_pow_right (by decide) (by omega)
  rw [Nat.div_eq_of_lt h1, ofN_zero]
 have c1 : ¬ ((q : Int) ≥ (L : Int)) := by omega
 have c3 : (q : Int) ≤ (L : Int) := by omega
 have hdl : ((ofN v).drop q).length = L - q := by rw [List.length_drop, hL]
 have c5 : ((L - q : Nat) : Int).toNat ≤ 35184372088832 := by rw [Int.toNat_natCast]; omega
 have c6 : L - q < 35184372088832 := by omega
 have c7 : (L - q) + (L - q) + 3 < k := by omega
 rw [if_neg c1, if_pos (Int.natCast_nonneg _), if_pos c3, bind_s, Int.toNat_natCast, hdl, if_pos (Int.natCast_nonneg _), if_pos c5, Int.toNat_natCast]
 have hp := (shr_parts (q := q) (s := s) wv hs (by omega)).1
 rw [val_ofN] at hp
 have := lshr_loop ((ofN v).drop q) (ws_drop wv q) s hs (decide (v % 2 ^ n ≠ 0)) (by rw [hdl]; exact c6) _ 0 k (List.replicate (L - q) 0) rfl (Nat.zero_le _) (by rw [hdl]; exact c7) (by rw [hdl, List.length_replicate]) (ws_replicate _) (by simp [val])
 rw [hdl] at this
 rw [en, hp, ← en]
 exact this
end Go.Proofs.YtemfckibdojbbaaDoor.Nf

namespace Go.Proofs.YtemfckibdojbbaaDoor.Nf
open Go.RowKit Go.Proofs.YtemfckibdojbbaaDoor.PAll Go.Proofs.YtemfckibdojbbaaDoorW.PrintWords Go.Proofs.YtemfckibdojbbaaDoorW.PrintLast Go.Proofs.YtemfckibdojbbaaDoorW.PrintMore Go.Proofs.YtemfckibdojbbaaDoor.Nm
set_option linter.unusedVariables false
set_option linter.unusedSimpArgs false
noncomputable def tz (n : Nat) : Nat := if h : n ≠ 0 then Classical.choose (low_form n h) else 0
theorem tz_eq {n t m : Nat} (h : n = 2 ^ t * (2 * m + 1)) : tz n = t := by
 have h0 : n ≠ 0 := by rw [h]; exact Nat.ne_of_gt (Nat.mul_pos (Nat.pow_pos (by decide)) (by omega))
 unfold tz
 rw [dif_pos h0]
 obtain ⟨m', hm⟩ := Classical.choose_spec (low_form n h0)
 exact low_unique (hm.symm.trans h)
noncomputable def od (n : Nat) : Nat := n / 2 ^ tz n
theorem od_eq {n t m : Nat} (h : n = 2 ^ t * (2 * m + 1)) : od n = 2 * m + 1 := by
 unfold od
 rw [tz_eq h, h, Nat.mul_div_cancel_left _ (Nat.pow_pos (by decide))]
theorem od_le (n : Nat) : od n ≤ n := Nat.div_le_self _ _
theorem od_mul (n : Nat) : od n * 2 ^ tz n = n := by
 by_cases h : n = 0
 ·subst h; unfold od; rw [Nat.zero_div, Nat.zero_mul]
 obtain ⟨t, m, e⟩ := low_form n h
 rw [od_eq e, tz_eq e, e, Nat.mul_comm]
theorem od_ne {n : Nat} (h : n ≠ 0) : od n ≠ 0 := fun e => h (by have := od_mul n; rw [e, Nat.zero_mul] at this; exact this.symm)
noncomputable def cf (s : Bool) (n : Nat) (e : Int) : Bool × List Int × Int := if n = 0 then (false, [], 0) else (s, ofN (od n), e + (tz n : Int))
theorem cf_zero (s : Bool) (e : Int) : cf s 0 e = (false, [], 0) := by unfold cf; rw [if_pos rfl]
theorem cf_ne {n : Nat} (h : n ≠ 0) (s : Bool) (e : Int) : cf s n e = (s, ofN (od n), e + (tz n : Int)) := by unfold cf; rw [if_neg h]
theorem tz_shl {n : Nat} (h : n ≠ 0) (j : Nat) : tz (n * 2 ^ j) = tz n + j ∧ od (n * 2 ^ j) = od n := by
 obtain ⟨t, m, e⟩ := low_form n h
 have e2 : n * 2 ^ j = 2 ^ (t + j) * (2 * m + 1) := by rw [e, Nat.pow_add, Nat.mul_right_comm]
 exact ⟨by rw [tz_eq e2, tz_eq e], by rw [od_eq e2, od_eq e]⟩
theorem cf_shl (s : Bool) (n j : Nat) (e : Int) : cf s (n * 2 ^ j) e = cf s n (e + j) := by
 by_cases h : n = 0
 ·subst h; rw [Nat.zero_mul, cf_zero, cf_zero]
 have h2 : n * 2 ^ j ≠ 0 := Nat.ne_of_gt (Nat.mul_pos (Nat.pos_of_ne_zero h) (Nat.pow_pos (by decide)))
 rw [cf_ne h, cf_ne h2, (tz_shl h j).1, (tz_shl h j).2]
 congr 2
 omega
theorem tz_lt {n : Nat} (h : n ≠ 0) : tz n < bl n := by
 obtain ⟨t, m, e⟩ := low_form n h
 rw [tz_eq e]; exact low_lt e
theorem bl_len {n m : Nat} (h : (ofN n).length ≤ m) : bl n ≤ 64 * m := by
 rw [bl_le_iff]
 have := (ofN_len n m).1 h
 rw [Nat.pow_mul]; exact this
theorem len_od (n : Nat) : (ofN (od n)).length ≤ (ofN n).length := ofN_len_le (od_le n)
theorem Form_eq (s : Bool) (l : List Int) (e : Int) (k : Nat) (hw : Ws l) (hl : l.length < 17592186044000) (h0 : -1000000000000000000 ≤ e) (h1 : e ≤ 1000000000000000000) (hk : 100000000000000000 ≤ k) : raw_Form.f k s l e = some (cf s (val l) e) := by
 unfold raw_Form.f
 have hn : (ofN (val l)).length ≤ l.length := (ofN_len (val l) l.length).2 (val_lt hw)
 rw [trim_eq l k hw (by omega) (by omega), bind_s]
 generalize val l = v at *
 by_cases h : v = 0
 ·subst h
  rw [ofN_zero, cf_zero, if_pos (show ((([] : List Int).length : Nat) : Int) = 0 from rfl)]
 obtain ⟨t, m, e1⟩ := low_form v h
 have hne : (ofN v).length ≠ 0 := fun h' => h (ofN_zero_iff.1 h')
 have q0 : ¬ ((ofN v).length : Int) = 0 := by omega
 have ht := low_lt e1
 have hb := bl_len hn
 have ht2 : t < 4611686018427387904 := by omega
 rw [if_neg q0, ((lLow_eq v k (by omega) (by omega)).2 t m e1), bind_s, lShr_eq _ t k (ws_ofN v) ht2 (by omega) (by omega), bind_s, cf_ne h, val_ofN, tz_eq e1, wrapS (by omega) (by omega)]
 unfold od
 rw [tz_eq e1]
theorem rForm_eq (s : Bool) (l : List Int) (e : Int) (k : Nat) (hw : Ws l) (hl : l.length < 17592186044000) (h0 : -1000000000000000000 ≤ e) (h1 : e ≤ 1000000000000000000) (hk : 100000000000000000 ≤ k) : ulpref04_Form.f k s l e = some (cf s (val l) e) := by
 unfold ulpref04_Form.f
 have hn : (ofN (val l)).length ≤ l.length := (ofN_len (val l) l.length).2 (val_lt hw)
 rw [rnorm_eq l k hw (by omega) (by omega), bind_s]
 generalize val l = v at *
 by_cases h : v = 0
 ·subst h
  rw [ofN_zero, cf_zero, if_pos (show ((([] : List Int).length : Nat) : Int) = 0 from rfl)]
 obtain ⟨t, m, e1⟩ := low_form v h
 have hne : (ofN v).length ≠ 0 := fun h' => h (ofN_zero_iff.1 h')
 have q0 : ¬ ((ofN v).length : Int) = 0 := by omega
 have ht := low_lt e1
 have hb := bl_len hn
 have ht2 : t < 4611686018427387904 := by omega
 rw [if_neg q0, rLow_eq (ofN v) k (ws_ofN v) (by rw [val_ofN]; exact e1) ht2 (by omega) (by omega), bind_s, rshr_eq (ofN v) t k (ws_ofN v) (by omega) (by omega) (by omega), bind_s, cf_ne h, val_ofN, tz_eq e1, wrapS (by omega) (by omega)]
 unfold od
 rw [tz_eq e1]
def sg (s : Bool) (n : Nat) : Int := if s then -(n : Int) else (n : Int)
def lowE : Int := -4000000
def Vz (z e : Int) : Int := z * 2 ^ (e - lowE).toNat
noncomputable def cz (z e : Int) : Bool × List Int × Int := cf (decide (z < 0)) z.natAbs e
theorem sg_zero (s : Bool) : sg s 0 = 0 := by cases s <;> rfl
theorem sg_abs (s : Bool) (n : Nat) : (sg s n).natAbs = n := by cases s <;> simp [sg]
theorem sg_neg (s : Bool) (n : Nat) : sg (!s) n = - sg s n := by cases s <;> simp [sg]
theorem sg_add (s : Bool) (n m : Nat) : sg s (n + m) = sg s n + sg s m := by cases s <;> simp [sg] <;> omega
theorem sg_sub (s : Bool) {n m : Nat} (h : m ≤ n) : sg s (n - m) = sg s n + sg (!s) m := by cases s <;> simp [sg] <;> omega
theorem sg_mul (s : Bool) (n m : Nat) : sg s (n * m) = sg s n * (m : Int) := by cases s <;> simp [sg, Int.neg_mul]
theorem pow_int (j : Nat) : ((2 ^ j : Nat) : Int) = (2 : Int) ^ j := by simp
theorem sg_shl (s : Bool) (n j : Nat) : sg s (n * 2 ^ j) = sg s n * 2 ^ j := by rw [sg_mul, pow_int]
theorem sg_neg_iff (s : Bool) {n : Nat} (h : n ≠ 0) : decide (sg s n < 0) = s := by cases s <;> simp [sg] <;> omega
theorem sg_self (z : Int) : sg (decide (z < 0)) z.natAbs = z := by
 unfold sg
 by_cases h : z < 0
 ·rw [if_pos (decide_eq_true h)]; omega
 rw [if_neg (by simpa using h)]; omega
theorem cf_cz (s : Bool) (n : Nat) (e : Int) : cf s n e = cz (sg s n) e := by
 unfold cz
 rw [sg_abs]
 by_cases h : n = 0
 ·subst h; rw [cf_zero, cf_zero]
 rw [sg_neg_iff s h]
theorem pow2_pos (j : Nat) : (0 : Int) < 2 ^ j := by rw [← pow_int]; exact Int.ofNat_lt.2 (Nat.pow_pos (by decide))
theorem mul_pow_neg (z : Int) (j : Nat) : decide (z * 2 ^ j < 0) = decide (z < 0) := by
 rw [decide_eq_decide]
 have := pow2_pos j
 constructor
 ·intro h
  refine Classical.byContradiction fun g => ?_
  have := Int.mul_nonneg (Int.not_lt.1 g) (Int.le_of_lt this)
  omega
 intro h; exact Int.mul_neg_of_neg_of_pos h this
theorem cz_shl (z : Int) (j : Nat) (e : Int) : cz (z * 2 ^ j) e = cz z (e + j) := by
 unfold cz
 rw [mul_pow_neg, Int.natAbs_mul, ← pow_int, Int.natAbs_natCast, cf_shl]
theorem cz_Vz {e : Int} (h : lowE ≤ e) (z : Int) : cz z e = cz (Vz z e) lowE := by
 unfold Vz
 rw [cz_shl]
 congr 1
 omega
theorem Vz_shl {e : Int} (h : lowE ≤ e) (z : Int) (j : Nat) : Vz (z * 2 ^ j) e = Vz z (e + j) := by
 unfold Vz
 rw [show (e + j - lowE).toNat = j + (e - lowE).toNat by omega, Int.pow_add, Int.mul_assoc]
theorem Vz_zero (e : Int) : Vz 0 e = 0 := Int.zero_mul _
theorem Vz_add (a b e : Int) : Vz (a + b) e = Vz a e + Vz b e := Int.add_mul _ _ _
theorem Vz_neg (a e : Int) : Vz (-a) e = - Vz a e := Int.neg_mul _ _
def vl (s : Bool) (l : List Int) (e : Int) : Int := Vz (sg s (val l)) e
theorem cf_vl {e : Int} (h : lowE ≤ e) (s : Bool) (l : List Int) : cf s (val l) e = cz (vl s l e) lowE := by rw [cf_cz, cz_Vz h]; rfl
theorem vl_cf {e : Int} (h : lowE ≤ e) (s : Bool) (n : Nat) : vl (cf s n e).1 (cf s n e).2.1 (cf s n e).2.2 = Vz (sg s n) e := by
 by_cases h0 : n = 0
 ·subst h0; rw [cf_zero, sg_zero, Vz_zero]; unfold vl; rw [val_nil, sg_zero, Vz_zero]
 rw [cf_ne h0]
 show Vz (sg s (val (ofN (od n)))) (e + (tz n : Int)) = _
 rw [val_ofN, ← Vz_shl h, ← sg_shl, od_mul]
theorem vl_cz (Z : Int) : vl (cz Z lowE).1 (cz Z lowE).2.1 (cz Z lowE).2.2 = Z := by
 unfold cz
 rw [vl_cf (Int.le_refl _), sg_self]
 unfold Vz; rw [Int.sub_self]; simp
end Go.Proofs.YtemfckibdojbbaaDoor.Nf

namespace Go.Proofs.YtemfckibdojbbaaDoor.Nf
open Go.RowKit Go.Proofs.YtemfckibdojbbaaDoor.PAll Go.Proofs.YtemfckibdojbbaaDoorW.PrintWords Go.Proofs.YtemfckibdojbbaaDoorW.PrintLast Go.Proofs.YtemfckibdojbbaaDoorW.PrintMore Go.Proofs.YtemfckibdojbbaaDoor.Nm
set_option linter.unusedVariables false
set_option linter.unusedSimpArgs false
theorem len0 {v : Nat} : (((ofN v).length : Nat) : Int) = 0 ↔ v = 0 := by rw [← ofN_zero_iff]; omega
theorem len_shl {a m : Nat} (h : (ofN a).length ≤ m) (j : Nat) : (ofN (a * 2 ^ j)).length ≤ m + j / 64 + 1 := by
 rw [ofN_len] at h ⊢
 have e : 18446744073709551616 ^ (m + j / 64 + 1) = 18446744073709551616 ^ m * 2 ^ (64 * (j / 64 + 1)) := by rw [Nat.add_assoc, Nat.pow_add, Nat.pow_mul]
 rw [e]
 exact Nat.mul_lt_mul_of_lt_of_le h (Nat.pow_le_pow_right (by decide) (by omega)) (Nat.pow_pos (by decide))
theorem len_add {a b m : Nat} (ha : (ofN a).length ≤ m) (hb : (ofN b).length ≤ m) : (ofN (a + b)).length ≤ m + 1 := big_add_aux rfl ((ofN_len _ _).1 ha) ((ofN_len _ _).1 hb)
theorem Zero_eq (s : Bool) (l : List Int) (e : Int) (k : Nat) (hw : Ws l) (hl : l.length < 17592186044000) (hk : 100000000000000000 ≤ k) : raw_Zero.f k s l e = some (decide (val l = 0)) := by
 unfold raw_Zero.f
 rw [trim_eq l k hw (by omega) (by omega), bind_s]
 congr 1
 rw [Bool.eq_iff_iff, decide_eq_true_iff, beq_iff_eq, len0]
theorem rZero_eq (s : Bool) (l : List Int) (e : Int) (k : Nat) (hw : Ws l) (hl : l.length < 17592186044000) (hk : 100000000000000000 ≤ k) : ulpref04_Zero.f k s l e = some (decide (val l = 0)) := by
 unfold ulpref04_Zero.f
 rw [rnorm_eq l k hw (by omega) (by omega), bind_s]
 congr 1
 rw [Bool.eq_iff_iff, decide_eq_true_iff, beq_iff_eq, len0]
def fits (n : Nat) (e : Int) : Bool := decide (n < big ∧ -32768 ≤ e ∧ e ≤ 32768)
theorem fits_iff {n : Nat} {e : Int} : fits n e = true ↔ n < big ∧ -32768 ≤ e ∧ e ≤ 32768 := decide_eq_true_iff
theorem fits_hi {n : Nat} {e : Int} (h : n < big) (g : e ≥ -32768) : fits n e = decide (e ≤ 32768) := by
 rw [Bool.eq_iff_iff, fits_iff, decide_eq_true_iff]
 exact ⟨fun c => c.2.2, fun c => ⟨h, g, c⟩⟩
theorem fits_no {n : Nat} {e : Int} (h : ¬ (n < big ∧ -32768 ≤ e ∧ e ≤ 32768)) : fits n e = false := by
 rw [Bool.eq_false_iff]; exact fun c => h (fits_iff.1 c)
theorem len_big' (v : Nat) : (((ofN v).length : Nat) : Int) ≤ 1024 ↔ v < big := by rw [← ofN_big]; omega
theorem Fits_eq (s : Bool) (l : List Int) (e : Int) (k : Nat) (hw : Ws l) (hl : l.length < 17592186044000) (hk : 100000000000000000 ≤ k) : raw_Fits.f k s l e = some (fits (val l) e) := by
 unfold raw_Fits.f
 rw [trim_eq l k hw (by omega) (by omega), bind_s]
 by_cases h : val l < big
 ·rw [if_pos ((len_big' _).2 h)]
  by_cases g : e ≥ -32768
  ·rw [if_pos g, fits_hi h g]
  rw [if_neg g, fits_no (fun c => g c.2.1)]
 rw [if_neg (fun c => h ((len_big' _).1 c))]; rw [fits_no (fun c => h c.1)]
theorem right_eq (s : Bool) (l : List Int) (e : Int) (k : Nat) (hw : Ws l) (hl : l.length < 17592186044000) (hk : 100000000000000000 ≤ k) : dyad_number_right.f k s l e = some (fits (val l) e) := by
 unfold dyad_number_right.f
 rw [Fits_eq s l e k hw hl hk, bind_s]
def roomS (d : Bool × List Int × Int) : Bool × List Int × Int × Int := if fits (val d.2.1) d.2.2 = true then (d.1, d.2.1, d.2.2, 0) else (false, [], 0, 3)
theorem room_eq (s : Bool) (l : List Int) (e : Int) (k : Nat) (hw : Ws l) (hl : l.length < 17592186044000) (hk : 100000000000000000 ≤ k) : dyad_room.f k s l e = some (roomS (s, l, e)) := by
 unfold dyad_room.f roomS
 rw [Fits_eq s l e k hw hl hk, bind_s]
 split <;> rfl
structure Rt (l : List Int) (e : Int) : Prop where
 ws : Ws l
 len : l.length < 17592186044000
 sm : (ofN (val l)).length ≤ 8192
 lo : -1000000 ≤ e
 hi : e ≤ 1000000
theorem Rt.lowE {l : List Int} {e : Int} (h : Rt l e) : Nf.lowE ≤ e := by have := h.lo; unfold Nf.lowE; omega
theorem One_eq (s : Bool) (l : List Int) (e : Int) (k : Nat) (h : Rt l e) (hk : 100000000000000000 ≤ k) : raw_One.f k s l e = some (cf s (val l) e) := by
 unfold raw_One.f
 rw [Form_eq s l e k h.ws h.len (by have := h.lo; omega) (by have := h.hi; omega) hk, bind_s]
theorem rOne_eq (s : Bool) (l : List Int) (e : Int) (k : Nat) (h : Rt l e) (hk : 100000000000000000 ≤ k) : ulpref04_One.f k s l e = some (cf s (val l) e) := by
 unfold ulpref04_One.f
 rw [rForm_eq s l e k h.ws h.len (by have := h.lo; omega) (by have := h.hi; omega) hk, bind_s]
theorem mn_eq (a b : Int) : mn a b = min a b := by unfold mn; rw [Int.min_def]; split <;> split <;> omega
theorem sub_nat {a E : Int} (h : E ≤ a) (h1 : a - E < 1000000000000) : wrap64 (a - E) = (((a - E).toNat : Nat) : Int) := by
 rw [wrapS (by omega) (by omega)]; omega
theorem amounts_eq (s1 s2 : Bool) (a b : Nat) (e1 e2 E : Int) (k : Nat) (hE : E = min e1 e2) (ha : (ofN a).length ≤ 8192) (hb : (ofN b).length ≤ 8192) (l1 : -2000000 ≤ e1) (u1 : e1 ≤ 2000000) (l2 : -2000000 ≤ e2) (u2 : e2 ≤ 2000000) (hk : 100000000000000000 ≤ k) :
  raw_amounts.f k s1 (ofN a) e1 s2 (ofN b) e2 = some (ofN (a * 2 ^ (e1 - E).toNat), ofN (b * 2 ^ (e2 - E).toNat), E) := by
 unfold raw_amounts.f
 have h1 : E ≤ e1 := by omega
 have h2 : E ≤ e2 := by omega
 have h3 : (e1 - E).toNat ≤ 4000000 := by omega
 have h4 : (e2 - E).toNat ≤ 4000000 := by omega
 rw [mn_eq, ← hE, sub_nat h1 (by omega), sub_nat h2 (by omega)]
 generalize (e1 - E).toNat = i at *
 generalize (e2 - E).toNat = j at *
 rw [lShl_eq (ofN a) i k (ws_ofN a) (by omega) (by omega) (by omega), bind_s, lShl_eq (ofN b) j k (ws_ofN b) (by omega) (by omega) (by omega), bind_s, val_ofN, val_ofN]
theorem cmpI_ge {x y : Nat} : cmpI x y ≥ 0 ↔ y ≤ x := by unfold cmpI; split <;> (try split) <;> omega
theorem sum_cz {s1 s2 : Bool} {x y : Nat} {E : Int} (hE : lowE ≤ E) :
  (s1 = s2 → cf s1 (x + y) E = cz (Vz (sg s1 x) E + Vz (sg s2 y) E) lowE) ∧ (s1 ≠ s2 → y ≤ x → cf s1 (x - y) E = cz (Vz (sg s1 x) E + Vz (sg s2 y) E) lowE) ∧ (s1 ≠ s2 → x ≤ y → cf s2 (y - x) E = cz (Vz (sg s1 x) E + Vz (sg s2 y) E) lowE) := by
 refine ⟨?_, ?_, ?_⟩
 ·rintro rfl; rw [cf_cz, cz_Vz hE, sg_add, Vz_add]
 ·intro h g
  have : s2 = !s1 := by cases s1 <;> cases s2 <;> simp_all
  rw [cf_cz, cz_Vz hE, sg_sub _ g, Vz_add, this]
 intro h g
 have : s1 = !s2 := by cases s1 <;> cases s2 <;> simp_all
 rw [cf_cz, cz_Vz hE, sg_sub _ g, Vz_add, this, Int.add_comm]
theorem scale {s : Bool} {o : Nat} {e E : Int} (h : lowE ≤ E) (g : E ≤ e) : Vz (sg s (o * 2 ^ (e - E).toNat)) E = Vz (sg s o) e := by
 rw [sg_shl, Vz_shl h]; congr 1; omega
theorem vl_parts {n : Nat} {e : Int} (h : lowE ≤ e) (s : Bool) : Vz (sg s (od n)) (e + (tz n : Int)) = Vz (sg s n) e := by
 rw [← Vz_shl h, ← sg_shl, od_mul]
theorem tz_small {n : Nat} (h : n ≠ 0) (hl : (ofN n).length ≤ 8192) : (tz n : Int) ≤ 600000 := by
 have := tz_lt h
 have := bl_len hl
 omega
theorem Add_eq (s1 s2 : Bool) (l1 l2 : List Int) (e1 e2 : Int) (k : Nat) (h1 : Rt l1 e1) (h2 : Rt l2 e2) (hk : 200000000000000000 ≤ k) : raw_Add.f k s1 l1 e1 s2 l2 e2 = some (cz (vl s1 l1 e1 + vl s2 l2 e2) lowE) := by
 unfold raw_Add.f
 have b1 := h1.lowE
 have b2 := h2.lowE
 have hv1 := h1.sm
 have hv2 := h2.sm
 have d1 := h1.lo; have d2 := h1.hi; have d3 := h2.lo; have d4 := h2.hi
 rw [One_eq s1 l1 e1 k h1 (by omega), bind_s, One_eq s2 l2 e2 k h2 (by omega), bind_s]
 have f1 := cf_vl b1 s1 l1
 have f2 := cf_vl b2 s2 l2
 have v1 : vl s1 l1 e1 = Vz (sg s1 (val l1)) e1 := rfl
 have v2 : vl s2 l2 e2 = Vz (sg s2 (val l2)) e2 := rfl
 generalize val l1 = n1 at *
 generalize val l2 = n2 at *
 by_cases z1 : n1 = 0
 ·have : (cf s1 n1 e1).2.1 = [] := by rw [z1, cf_zero]
  rw [this, Zero_eq _ _ _ k ws_nil (by simp) (by omega), bind_s, if_pos (by rw [val_nil]; rfl), f2, v1, z1, sg_zero, Vz_zero, Int.zero_add]
 have c1 := cf_ne z1 s1 e1
 have o1 := od_ne z1
 rw [c1, Zero_eq _ _ _ k (ws_ofN _) (by have := len_od n1; show (ofN (od n1)).length < _; omega) (by omega), bind_s]
 rw [if_neg (by rw [val_ofN]; simpa using o1)]
 by_cases z2 : n2 = 0
 ·have : (cf s2 n2 e2).2.1 = [] := by rw [z2, cf_zero]
  rw [this, Zero_eq _ _ _ k ws_nil (by simp) (by omega), bind_s, if_pos (by rw [val_nil]; rfl), ← c1, f1, v2, z2, sg_zero, Vz_zero, Int.add_zero]
 have c2 := cf_ne z2 s2 e2
 have o2 := od_ne z2
 rw [c2, Zero_eq _ _ _ k (ws_ofN _) (by have := len_od n2; show (ofN (od n2)).length < _; omega) (by omega), bind_s]
 rw [if_neg (by rw [val_ofN]; simpa using o2)]
 have t1 := tz_small z1 hv1
 have t2 := tz_small z2 hv2
 have p1 := vl_parts b1 s1 (n := n1)
 have p2 := vl_parts b2 s2 (n := n2)
 have q1 := len_od n1
 have q2 := len_od n2
 show raw_Add.j0 k s1 (ofN (od n1)) (e1 + (tz n1 : Int)) s2 (ofN (od n2)) (e2 + (tz n2 : Int)) = _
 have g1 : -2000000 ≤ e1 + (tz n1 : Int) ∧ e1 + (tz n1 : Int) ≤ 2000000 := by omega
 have g2 : -2000000 ≤ e2 + (tz n2 : Int) ∧ e2 + (tz n2 : Int) ≤ 2000000 := by omega
 rw [v1, v2, ← p1, ← p2]
 generalize od n1 = x at *
 generalize od n2 = y at *
 generalize e1 + (tz n1 : Int) = a1 at *
 generalize e2 + (tz n2 : Int) = a2 at *
 obtain ⟨k, rfl⟩ : ∃ m, k = m + 1 := ⟨k - 1, by omega⟩
 obtain ⟨E, hE⟩ : ∃ E, E = min a1 a2 := ⟨_, rfl⟩
 simp only [raw_Add.j0]
 rw [amounts_eq s1 s2 x y a1 a2 E k hE (by omega) (by omega) g1.1 g1.2 g2.1 g2.2 (by omega), bind_s]
 have lE : lowE ≤ E := by have := g1.1; have := g2.1; unfold lowE; omega
 have bE : -2000000 ≤ E ∧ E ≤ 2000000 := by omega
 have w1 : E ≤ a1 := by omega
 have w2 : E ≤ a2 := by omega
 have y1 : (a1 - E).toNat ≤ 4000000 := by omega
 have y2 : (a2 - E).toNat ≤ 4000000 := by omega
 have L1 := len_shl (Nat.le_trans q1 hv1) (a1 - E).toNat
 have L2 := len_shl (Nat.le_trans q2 hv2) (a2 - E).toNat
 have S1 := scale (s := s1) (o := x) lE w1
 have S2 := scale (s := s2) (o := y) lE w2
 have M1 : (ofN (x * 2 ^ (a1 - E).toNat)).length ≤ 100000 := by omega
 have M2 : (ofN (y * 2 ^ (a2 - E).toNat)).length ≤ 100000 := by omega
 generalize x * 2 ^ (a1 - E).toNat = X at *
 generalize y * 2 ^ (a2 - E).toNat = Y at *
 rw [← S1, ← S2]
 obtain ⟨r1, r2, r3⟩ := sum_cz (s1 := s1) (s2 := s2) (x := X) (y := Y) lE
 by_cases hs : s1 = s2
 ·rw [if_pos (by rw [beq_iff_eq]; exact hs), lAdd_eq _ _ (ws_ofN X) (ws_ofN Y) (by omega) (by omega) k (by omega), bind_s, val_ofN, val_ofN]
  have M3 : (ofN (X + Y)).length < 17592186044000 := by
   have := len_add M1 M2
   omega
  rw [Form_eq s1 _ E k (ws_ofN _) M3 (by omega) (by omega) (by omega), bind_s, val_ofN, r1 hs]
 rw [if_neg (by rw [beq_iff_eq]; exact hs)]
 obtain ⟨k, rfl⟩ : ∃ m, k = m + 1 := ⟨k - 1, by omega⟩
 simp only [raw_Add.j1]
 rw [lCmp_eq _ _ k (ws_ofN X) (ws_ofN Y) (by omega) (by omega) (by omega), bind_s, val_ofN, val_ofN]
 by_cases g : Y ≤ X
 ·rw [if_pos (cmpI_ge.2 g), lSub_eq X Y g k (by omega) (by omega), bind_s]
  have M3 : (ofN (X - Y)).length < 17592186044000 := by have := ofN_len_le (Nat.sub_le X Y); omega
  rw [Form_eq s1 _ E k (ws_ofN _) M3 (by omega) (by omega) (by omega), bind_s, val_ofN, r2 hs g]
 have g' : X ≤ Y := by omega
 rw [if_neg (fun c => g (cmpI_ge.1 c)), lSub_eq Y X g' k (by omega) (by omega), bind_s]
 have M3 : (ofN (Y - X)).length < 17592186044000 := by have := ofN_len_le (Nat.sub_le Y X); omega
 rw [Form_eq s2 _ E k (ws_ofN _) M3 (by omega) (by omega) (by omega), bind_s, val_ofN, r3 hs g']
end Go.Proofs.YtemfckibdojbbaaDoor.Nf

namespace Go.Proofs.YtemfckibdojbbaaDoor.Nf
open Go.RowKit Go.Proofs.YtemfckibdojbbaaDoor.PAll Go.Proofs.YtemfckibdojbbaaDoorW.PrintWords Go.Proofs.YtemfckibdojbbaaDoorW.PrintLast Go.Proofs.YtemfckibdojbbaaDoorW.PrintMore Go.Proofs.YtemfckibdojbbaaDoor.Nm
set_option linter.unusedVariables false
set_option linter.unusedSimpArgs false
structure Rs (l : List Int) (e : Int) : Prop where
 ws : Ws l
 len : l.length < 17592186044000
 sm : (ofN (val l)).length ≤ 2000
 lo : -200000 ≤ e
 hi : e ≤ 200000
theorem Rs.t {l : List Int} {e : Int} (h : Rs l e) : Rt l e := ⟨h.ws, h.len, by have := h.sm; omega, by have := h.lo; omega, by have := h.hi; omega⟩
theorem rs_fits {l : List Int} {e : Int} (hw : Ws l) (hl : l.length < 17592186044000) (h : fits (val l) e = true) : Rs l e := by
 obtain ⟨a, b, c⟩ := fits_iff.1 h
 exact ⟨hw, hl, by have := len_big a; omega, by omega, by omega⟩
theorem rt_cf (s : Bool) {n : Nat} {e : Int} (hn : (ofN n).length ≤ 2000) (h0 : -400000 ≤ e) (h1 : e ≤ 400000) : Rt (cf s n e).2.1 (cf s n e).2.2 := by
 by_cases h : n = 0
 ·rw [h, cf_zero]; exact ⟨ws_nil, by simp, by rw [val_nil, ofN_zero]; simp, by show (-1000000 : Int) ≤ 0; omega, by show (0 : Int) ≤ 1000000; omega⟩
 rw [cf_ne h]
 have a := len_od n
 have t := tz_lt h
 have b := bl_len hn
 refine ⟨ws_ofN _, ?_, ?_, ?_, ?_⟩
 ·show (ofN (od n)).length < _; omega
 ·show (ofN (val (ofN (od n)))).length ≤ _; rw [val_ofN]; omega
 ·show -1000000 ≤ e + (tz n : Int); omega
 show e + (tz n : Int) ≤ 1000000; omega
theorem Neg_eq (s : Bool) (l : List Int) (e : Int) (k : Nat) (h : Rt l e) (hk : 100000000000000000 ≤ k) : raw_Neg.f k s l e = some (cf (!s) (val l) e) := by
 unfold raw_Neg.f
 rw [Form_eq _ l e k h.ws h.len (by have := h.lo; omega) (by have := h.hi; omega) hk, bind_s]
theorem rNeg_eq (s : Bool) (l : List Int) (e : Int) (k : Nat) (h : Rt l e) (hk : 100000000000000000 ≤ k) : ulpref04_Neg.f k s l e = some (cf (!s) (val l) e) := by
 unfold ulpref04_Neg.f
 rw [rForm_eq _ l e k h.ws h.len (by have := h.lo; omega) (by have := h.hi; omega) hk, bind_s]
theorem vl_neg (s : Bool) (l : List Int) (e : Int) : vl (!s) l e = - vl s l e := by unfold vl; rw [sg_neg, Vz_neg]
theorem Sub_eq (s1 s2 : Bool) (l1 l2 : List Int) (e1 e2 : Int) (k : Nat) (h1 : Rt l1 e1) (h2 : Rs l2 e2) (hk : 200000000000000000 ≤ k) : raw_Sub.f k s1 l1 e1 s2 l2 e2 = some (cz (vl s1 l1 e1 - vl s2 l2 e2) lowE) := by
 unfold raw_Sub.f
 rw [Neg_eq s2 l2 e2 k h2.t (by omega), bind_s, Add_eq _ _ _ _ _ _ k h1 (rt_cf _ h2.sm (by have := h2.lo; omega) (by have := h2.hi; omega)) hk, bind_s, vl_cf h2.t.lowE, sg_neg, Vz_neg]
 rfl
theorem rPlus_eq (s1 s2 : Bool) (l1 l2 : List Int) (e1 e2 : Int) (k : Nat) (h1 : Rt l1 e1) (h2 : Rt l2 e2) (hk : 200000000000000000 ≤ k) : ulpref04_Plus.f k s1 l1 e1 s2 l2 e2 = some (cz (vl s1 l1 e1 + vl s2 l2 e2) lowE) := by
 unfold ulpref04_Plus.f
 have b1 := h1.lowE
 have b2 := h2.lowE
 have hv1 := h1.sm
 have hv2 := h2.sm
 have d1 := h1.lo; have d2 := h1.hi; have d3 := h2.lo; have d4 := h2.hi
 rw [rOne_eq s1 l1 e1 k h1 (by omega), bind_s, rOne_eq s2 l2 e2 k h2 (by omega), bind_s]
 have f1 := cf_vl b1 s1 l1
 have f2 := cf_vl b2 s2 l2
 have v1 : vl s1 l1 e1 = Vz (sg s1 (val l1)) e1 := rfl
 have v2 : vl s2 l2 e2 = Vz (sg s2 (val l2)) e2 := rfl
 generalize val l1 = n1 at *
 generalize val l2 = n2 at *
 by_cases z1 : n1 = 0
 ·have : (cf s1 n1 e1).2.1 = [] := by rw [z1, cf_zero]
  rw [this, if_pos (show ((([] : List Int).length : Nat) : Int) = 0 from rfl), f2, v1, z1, sg_zero, Vz_zero, Int.zero_add]
 have c1 := cf_ne z1 s1 e1
 have o1 := od_ne z1
 rw [c1, if_neg (show ¬ (((ofN (od n1)).length : Nat) : Int) = 0 from fun c => o1 (len0.1 c))]
 obtain ⟨k, rfl⟩ : ∃ m, k = m + 1 := ⟨k - 1, by omega⟩
 show ulpref04_Plus.j0 (k + 1) s1 (ofN (od n1)) (e1 + (tz n1 : Int)) _ _ _ = _
 simp only [ulpref04_Plus.j0]
 by_cases z2 : n2 = 0
 ·have : (cf s2 n2 e2).2.1 = [] := by rw [z2, cf_zero]
  rw [this, if_pos (show ((([] : List Int).length : Nat) : Int) = 0 from rfl), ← c1, f1, v2, z2, sg_zero, Vz_zero, Int.add_zero]
 have c2 := cf_ne z2 s2 e2
 have o2 := od_ne z2
 rw [c2, if_neg (show ¬ (((ofN (od n2)).length : Nat) : Int) = 0 from fun c => o2 (len0.1 c))]
 have t1 := tz_small z1 hv1
 have t2 := tz_small z2 hv2
 have p1 := vl_parts b1 s1 (n := n1)
 have p2 := vl_parts b2 s2 (n := n2)
 have q1 := len_od n1
 have q2 := len_od n2
 show ulpref04_Plus.j1 k s1 (ofN (od n1)) (e1 + (tz n1 : Int)) s2 (ofN (od n2)) (e2 + (tz n2 : Int)) = _
 have g1 : -2000000 ≤ e1 + (tz n1 : Int) ∧ e1 + (tz n1 : Int) ≤ 2000000 := by omega
 have g2 : -2000000 ≤ e2 + (tz n2 : Int) ∧ e2 + (tz n2 : Int) ≤ 2000000 := by omega
 rw [v1, v2, ← p1, ← p2]
 generalize od n1 = x at *
 generalize od n2 = y at *
 generalize e1 + (tz n1 : Int) = a1 at *
 generalize e2 + (tz n2 : Int) = a2 at *
 obtain ⟨k, rfl⟩ : ∃ m, k = m + 1 := ⟨k - 1, by omega⟩
 obtain ⟨E, hE⟩ : ∃ E, E = min a1 a2 := ⟨_, rfl⟩
 simp only [ulpref04_Plus.j1]
 have lE : lowE ≤ E := by have := g1.1; have := g2.1; unfold lowE; omega
 have bE : -2000000 ≤ E ∧ E ≤ 2000000 := by omega
 have w1 : E ≤ a1 := by omega
 have w2 : E ≤ a2 := by omega
 have y1 : (a1 - E).toNat ≤ 4000000 := by omega
 have y2 : (a2 - E).toNat ≤ 4000000 := by omega
 have L1 := len_shl (Nat.le_trans q1 hv1) (a1 - E).toNat
 have L2 := len_shl (Nat.le_trans q2 hv2) (a2 - E).toNat
 have S1 := scale (s := s1) (o := x) lE w1
 have S2 := scale (s := s2) (o := y) lE w2
 have M1 : (ofN (x * 2 ^ (a1 - E).toNat)).length ≤ 100000 := by omega
 have M2 : (ofN (y * 2 ^ (a2 - E).toNat)).length ≤ 100000 := by omega
 rw [mn_eq, ← hE, sub_nat w1 (by omega), sub_nat w2 (by omega), rshl_eq (ofN x) _ k (ws_ofN x) (by omega) (by omega) (by omega), bind_s, rshl_eq (ofN y) _ k (ws_ofN y) (by omega) (by omega) (by omega), bind_s, val_ofN, val_ofN]
 generalize x * 2 ^ (a1 - E).toNat = X at *
 generalize y * 2 ^ (a2 - E).toNat = Y at *
 rw [← S1, ← S2]
 obtain ⟨r1, r2, r3⟩ := sum_cz (s1 := s1) (s2 := s2) (x := X) (y := Y) lE
 by_cases hs : s1 = s2
 ·rw [if_pos (by rw [beq_iff_eq]; exact hs), radd_eq _ _ k (ws_ofN X) (ws_ofN Y) (by omega) (by omega) (by omega), bind_s, val_ofN, val_ofN]
  have M3 : (ofN (X + Y)).length < 17592186044000 := by
   have := len_add M1 M2
   omega
  rw [rForm_eq s1 _ E k (ws_ofN _) M3 (by omega) (by omega) (by omega), bind_s, val_ofN, r1 hs]
 rw [if_neg (by rw [beq_iff_eq]; exact hs), rcmp_eq _ _ k (ws_ofN X) (ws_ofN Y) (by omega) (by omega) (by omega), bind_s, val_ofN, val_ofN]
 by_cases g : Y ≤ X
 ·rw [if_pos (cmpI_ge.2 g), rsub_eq _ _ k (ws_ofN X) (ws_ofN Y) (by omega) (by omega) (by rw [val_ofN, val_ofN]; exact g) (by omega), bind_s, val_ofN, val_ofN]
  have M3 : (ofN (X - Y)).length < 17592186044000 := by have := ofN_len_le (Nat.sub_le X Y); omega
  rw [rForm_eq s1 _ E k (ws_ofN _) M3 (by omega) (by omega) (by omega), bind_s, val_ofN, r2 hs g]
 have g' : X ≤ Y := by omega
 rw [if_neg (fun c => g (cmpI_ge.1 c)), rsub_eq _ _ k (ws_ofN Y) (ws_ofN X) (by omega) (by omega) (by rw [val_ofN, val_ofN]; exact g') (by omega), bind_s, val_ofN, val_ofN]
 have M3 : (ofN (Y - X)).length < 17592186044000 := by have := ofN_len_le (Nat.sub_le Y X); omega
 rw [rForm_eq s2 _ E k (ws_ofN _) M3 (by omega) (by omega) (by omega), bind_s, val_ofN, r3 hs g']
theorem rLess_eq' (s1 s2 : Bool) (l1 l2 : List Int) (e1 e2 : Int) (k : Nat) (h1 : Rt l1 e1) (h2 : Rs l2 e2) (hk : 200000000000000000 ≤ k) : ulpref04_Less.f k s1 l1 e1 s2 l2 e2 = some (cz (vl s1 l1 e1 - vl s2 l2 e2) lowE) := by
 unfold ulpref04_Less.f
 rw [rNeg_eq s2 l2 e2 k h2.t (by omega), bind_s, rPlus_eq _ _ _ _ _ _ k h1 (rt_cf _ h2.sm (by have := h2.lo; omega) (by have := h2.hi; omega)) hk, bind_s, vl_cf h2.t.lowE, sg_neg, Vz_neg]
 rfl
end Go.Proofs.YtemfckibdojbbaaDoor.Nf

namespace Go.Proofs.YtemfckibdojbbaaDoor.Nf
open Go.RowKit Go.Proofs.YtemfckibdojbbaaDoor.PAll Go.Proofs.YtemfckibdojbbaaDoorW.PrintWords Go.Proofs.YtemfckibdojbbaaDoorW.PrintLast Go.Proofs.YtemfckibdojbbaaDoorW.PrintMore Go.Proofs.YtemfckibdojbbaaDoor.Nm
set_option linter.unusedVariables false
set_option linter.unusedSimpArgs false
def cmpZ (x y : Int) : Int := if x < y then -1 else if x = y then 0 else 1
def sI (s : Bool) (n : Nat) : Int := if n = 0 then 0 else if s = true then -1 else 1
theorem rSign_eq (s : Bool) (l : List Int) (e : Int) (k : Nat) (hw : Ws l) (hl : l.length < 17592186044000) (hk : 100000000000000000 ≤ k) : ulpref04_Sign.f k s l e = some (sI s (val l)) := by
 unfold ulpref04_Sign.f sI
 rw [rZero_eq s l e k hw hl hk, bind_s]
 by_cases h : val l = 0
 ·rw [if_pos (decide_eq_true h), if_pos h]
 rw [if_neg (by rw [decide_eq_true_iff]; exact h), if_neg h]; split <;> rfl
theorem sI_cmp (s : Bool) (n : Nat) : sI s n = cmpZ (sg s n) 0 := by
 unfold sI cmpZ sg
 cases s <;> simp <;> (split <;> (try split) <;> (try omega))
theorem rTop_eq (s : Bool) (l : List Int) (e : Int) (k : Nat) (hw : Ws l) (hl : l.length < 17592186044000) (h0 : -1000000000000000 ≤ e) (h1 : e ≤ 1000000000000000) (hk : 100000000000000000 ≤ k) : ulpref04_Top.f k s l e = some (e + (bl (val l) : Int) - 1) := by
 unfold ulpref04_Top.f
 have hn : (ofN (val l)).length ≤ l.length := (ofN_len (val l) l.length).2 (val_lt hw)
 have hb := bl_len hn
 rw [rlen_eq l k hw hl (by omega), bind_s, wrapS (x := e + _) (by omega) (by omega), wrapS (by omega) (by omega)]
def am (n : Nat) (e : Int) : Nat := n * 2 ^ (e - lowE).toNat
theorem Vz_am (s : Bool) (n : Nat) (e : Int) : Vz (sg s n) e = sg s (am n e) := by unfold Vz am; rw [sg_shl]
theorem am_pos {n : Nat} (h : n ≠ 0) (e : Int) : am n e ≠ 0 := Nat.ne_of_gt (Nat.mul_pos (Nat.pos_of_ne_zero h) (Nat.pow_pos (by decide)))
theorem am_bl {n : Nat} (h : n ≠ 0) {e : Int} (g : lowE ≤ e) : (bl (am n e) : Int) = bl n + (e - lowE) := by
 unfold am; rw [bl_shl h]; omega
theorem am_lt {n m : Nat} {e f : Int} (hn : n ≠ 0) (hm : m ≠ 0) (he : lowE ≤ e) (hf : lowE ≤ f) (h : e + (bl n : Int) < f + (bl m : Int)) : am n e < am m f := by
 refine Classical.byContradiction fun g => ?_
 have := bl_mono (Nat.le_of_not_lt g)
 have a := am_bl hn he
 have b := am_bl hm hf
 omega
theorem cmpZ_sg (s : Bool) (x y : Nat) : cmpZ (sg s x) (sg s y) = if s = true then - cmpI x y else cmpI x y := by
 unfold cmpZ cmpI
 cases s
 ·simp only [sg, Bool.false_eq_true, if_false]
  split <;> split <;> (try split) <;> (try split) <;> omega
 simp only [sg, if_true]
 split <;> (try split) <;> (try split) <;> (try split) <;> omega
theorem cmp_signs (s1 s2 : Bool) (N M : Nat) : (sI s1 N < sI s2 M → cmpZ (sg s1 N) (sg s2 M) = -1) ∧ (sI s1 N > sI s2 M → cmpZ (sg s1 N) (sg s2 M) = 1) ∧ (sI s1 N = 0 → sI s2 M = 0 → cmpZ (sg s1 N) (sg s2 M) = 0) := by
 unfold sI cmpZ sg
 refine ⟨?_, ?_, ?_⟩
 all_goals
  cases s1 <;> cases s2 <;> simp only [Bool.false_eq_true, if_false, if_true] <;> intros <;> (repeat' split at *) <;> omega
theorem sI_same {s1 s2 : Bool} {N M : Nat} (h : sI s1 N = sI s2 M) (h0 : sI s1 N ≠ 0) : N ≠ 0 ∧ M ≠ 0 ∧ s1 = s2 ∧ sI s1 N = if s1 = true then -1 else 1 := by
 unfold sI at *
 by_cases a : N = 0
 ·simp [a] at h0
 by_cases b : M = 0
 ·simp [a, b] at h; cases s1 <;> simp at h
 cases s1 <;> cases s2 <;> simp_all
theorem sI_am (s : Bool) (n : Nat) (e : Int) : sI s (am n e) = sI s n := by
 unfold sI
 by_cases h : n = 0
 ·subst h; unfold am; rw [Nat.zero_mul]
 rw [if_neg h, if_neg (am_pos h e)]
theorem wrap_small {x : Int} (h : x = -1 ∨ x = 0 ∨ x = 1) : wrap64 x = x := wrapS (by omega) (by omega)
theorem cmpI_gt {x y : Nat} (h : y < x) : cmpI x y = 1 := by unfold cmpI; rw [if_neg (Nat.not_lt.2 (Nat.le_of_lt h)), if_neg (Nat.ne_of_gt h)]
theorem cmpI_lt {x y : Nat} (h : x < y) : cmpI x y = -1 := by unfold cmpI; rw [if_pos h]
theorem cmp_diff (x y : Int) : cmpZ (x - y) 0 = cmpZ x y := by
 unfold cmpZ; split <;> split <;> (try split) <;> (try split) <;> omega
theorem rOrder_eq (s1 s2 : Bool) (l1 l2 : List Int) (e1 e2 : Int) (k : Nat) (h1 : Rt l1 e1) (h2 : Rs l2 e2) (hk : 200000000000000000 ≤ k) : ulpref04_Order.f k s1 l1 e1 s2 l2 e2 = some (cmpZ (vl s1 l1 e1) (vl s2 l2 e2)) := by
 unfold ulpref04_Order.f
 have b1 := h1.lowE
 have b2 := h2.t.lowE
 have d1 := h1.lo; have d2 := h1.hi; have d3 := h2.lo; have d4 := h2.hi
 rw [rSign_eq s1 l1 e1 k h1.ws h1.len (by omega), bind_s, rSign_eq s2 l2 e2 k h2.ws h2.len (by omega), bind_s, rTop_eq s1 l1 e1 k h1.ws h1.len (by omega) (by omega) (by omega), rTop_eq s2 l2 e2 k h2.ws h2.len (by omega) (by omega) (by omega), rLess_eq' s1 s2 l1 l2 e1 e2 k h1 h2 hk]
 obtain ⟨c1, c2, c3⟩ := cmp_signs s1 s2 (am (val l1) e1) (am (val l2) e2)
 rw [sI_am, sI_am] at c1 c2 c3
 have v1 : vl s1 l1 e1 = sg s1 (am (val l1) e1) := Vz_am _ _ _
 have v2 : vl s2 l2 e2 = sg s2 (am (val l2) e2) := Vz_am _ _ _
 by_cases q1 : sI s1 (val l1) < sI s2 (val l2)
 ·rw [if_pos q1, v1, v2, c1 q1]
 rw [if_neg q1]
 by_cases q2 : sI s1 (val l1) > sI s2 (val l2)
 ·rw [if_pos q2, v1, v2, c2 q2]
 rw [if_neg q2]
 have q3 : sI s1 (val l1) = sI s2 (val l2) := by omega
 by_cases q0 : sI s1 (val l1) = 0
 ·rw [if_pos q0, v1, v2, c3 q0 (q3 ▸ q0)]
 rw [if_neg q0, bind_s, bind_s]
 obtain ⟨z1, z2, rfl, hs⟩ := sI_same q3 q0
 by_cases t : e1 + (bl (val l1) : Int) - 1 = e2 + (bl (val l2) : Int) - 1
 ·rw [if_pos t, bind_s]
  have hz := vl_cz (vl s1 l1 e1 - vl s1 l2 e2)
  have hc : Ws (cz (vl s1 l1 e1 - vl s1 l2 e2) lowE).2.1 ∧ (cz (vl s1 l1 e1 - vl s1 l2 e2) lowE).2.1.length < 17592186044000 := by
   have a := h1.sm; have b := h2.sm
   have B1 : (ofN (am (val l1) e1)).length ≤ 8192 + 5000000 / 64 + 1 := by
    refine Nat.le_trans (len_shl a _) ?_
    have : (e1 - lowE).toNat ≤ 5000000 := by unfold lowE; omega
    omega
   have B2 : (ofN (am (val l2) e2)).length ≤ 8192 + 5000000 / 64 + 1 := by
    refine Nat.le_trans (len_shl b _) ?_
    have : (e2 - lowE).toNat ≤ 5000000 := by unfold lowE; omega
    omega
   rw [v1, v2]
   generalize am (val l1) e1 = N at *
   generalize am (val l2) e2 = M at *
   have hle : (sg s1 N - sg s1 M).natAbs ≤ N + M := by cases s1 <;> simp [sg] <;> omega
   have B3 := len_add B1 B2
   have B4 := ofN_len_le hle
   unfold cz
   generalize (sg s1 N - sg s1 M).natAbs = Q at *
   by_cases hQ : Q = 0
   ·rw [hQ, cf_zero]; exact ⟨ws_nil, by simp⟩
   rw [cf_ne hQ]
   have := len_od Q
   exact ⟨ws_ofN _, by show (ofN (od Q)).length < _; omega⟩
  generalize hd : cz (vl s1 l1 e1 - vl s1 l2 e2) lowE = d at *
  rw [rSign_eq _ _ _ k hc.1 hc.2 (by omega), bind_s]
  unfold vl at hz
  rw [Vz_am] at hz
  rw [← sI_am _ _ d.2.2, sI_cmp, hz]
  exact congrArg some (cmp_diff _ _)
 rw [if_neg t]
 rw [hs, v1, v2, cmpZ_sg]
 by_cases u : e1 + (bl (val l1) : Int) - 1 > e2 + (bl (val l2) : Int) - 1
 ·have := am_lt z2 z1 b2 b1 (by omega)
  rw [if_pos u, cmpI_gt this]
 have := am_lt z1 z2 b1 b2 (by omega)
 rw [if_neg u]
 rw [cmpI_lt this]
 cases s1
 ·simp only [Bool.false_eq_true, if_false]; rw [wrap_small (by omega)]
 simp only [if_true]; rw [wrap_small (by omega)]
end Go.Proofs.YtemfckibdojbbaaDoor.Nf

namespace Go.Proofs.YtemfckibdojbbaaDoor.Nf
open Go.RowKit Go.Proofs.YtemfckibdojbbaaDoor.PAll Go.Proofs.YtemfckibdojbbaaDoorW.PrintWords Go.Proofs.YtemfckibdojbbaaDoorW.PrintLast Go.Proofs.YtemfckibdojbbaaDoorW.PrintMore Go.Proofs.YtemfckibdojbbaaDoor.Nm
set_option linter.unusedVariables false
set_option linter.unusedSimpArgs false
theorem od_odd {n : Nat} (h : n ≠ 0) (j : Nat) (hj : 0 < j) : od n % 2 ^ j ≠ 0 := by
 obtain ⟨t, m, e⟩ := low_form n h
 rw [od_eq e]
 have := (low_mod_ne 0 m j).2 hj
 rwa [Nat.pow_zero, Nat.one_mul] at this
theorem len_succ {a m : Nat} (h : (ofN a).length ≤ m) (hm : 1 ≤ m) (c : Nat) (hc : c ≤ 1) : (ofN (a + c)).length ≤ m + 1 := by
 refine len_add h (Nat.le_trans ?_ hm)
 rw [ofN_len]
 exact Nat.lt_of_le_of_lt hc (by decide)
theorem One_wlen : Ws (ofN 1) ∧ (ofN 1).length < 17592186044000 := ⟨ws_ofN 1, by have := (ofN_len 1 1).2 (by decide); omega⟩
theorem lOf1 : limbs_Of.f 1 = some (ofN 1) := lOf_eq 1 (by decide)
noncomputable def flS (s : Bool) (n : Nat) (e : Int) : Bool × List Int × Int :=
 if n = 0 ∨ 0 ≤ e + (tz n : Int) then cf s n e else cf s (od n / 2 ^ (-(e + (tz n : Int))).toNat + if s = true then 1 else 0) 0
theorem Floor_eq (s : Bool) (l : List Int) (e : Int) (k : Nat) (h : Rt l e) (hk : 200000000000000000 ≤ k) : raw_Floor.f k s l e = some (flS s (val l) e) := by
 unfold raw_Floor.f flS
 rw [One_eq s l e k h (by omega), bind_s]
 have b1 := h.lo; have b2 := h.hi; have b3 := h.sm
 generalize val l = n at *
 by_cases z : n = 0
 ·have : (cf s n e).2.2 = 0 := by rw [z, cf_zero]
  rw [this, if_pos (by omega), if_pos (.inl z), z, cf_zero]
 have hl := len_od n
 have t1 := tz_small z b3
 by_cases g : 0 ≤ e + (tz n : Int)
 ·have : (cf s n e).2.2 ≥ 0 := by rw [cf_ne z]; exact g
  rw [if_pos this, if_pos (.inr g)]
 have : ¬ (cf s n e).2.2 ≥ 0 := by rw [cf_ne z]; exact g
 rw [if_neg this, if_neg (fun c => c.elim z g), cf_ne z]
 have eN : wrap64 (-(e + (tz n : Int))) = (((-(e + (tz n : Int))).toNat : Nat) : Int) := by rw [wrapS (by omega) (by omega)]; omega
 have N1 : (-(e + (tz n : Int))).toNat < 4611686018427387904 := by omega
 have N0 : 0 < (-(e + (tz n : Int))).toNat := by omega
 have hd := ofN_len_le (Nat.div_le_self (od n) (2 ^ (-(e + (tz n : Int))).toNat))
 have lost := decide_eq_true (od_odd z _ N0)
 show (limbs_Shr.f k (ofN (od n)) (wrap64 (-(e + (tz n : Int))))).bind _ = _
 rw [eN, lShr_eq (ofN (od n)) _ k (ws_ofN _) N1 (by omega) (by omega), bind_s, val_ofN, lost, if_pos rfl]
 obtain ⟨k, rfl⟩ : ∃ m, k = m + 1 := ⟨k - 1, by omega⟩
 generalize od n / 2 ^ (-(e + (tz n : Int))).toNat = v at *
 show raw_Floor.j0 (k + 1) (ofN v) s s (ofN (od n)) (e + (tz n : Int)) = _
 simp only [raw_Floor.j0]
 by_cases u : s = true
 ·rw [if_pos u, if_pos u, lOf1, bind_s]
  have := One_wlen.2
  have hs := len_succ (a := v) (m := 8193) (by omega) (by omega) 1 (by omega)
  rw [lAdd_eq _ _ (ws_ofN v) (ws_ofN 1) (by omega) this k (by omega), bind_s, val_ofN, val_ofN, Form_eq s _ _ k (ws_ofN _) (by omega) (by omega) (by omega) (by omega), bind_s, val_ofN]
 rw [if_neg u, if_neg u, Form_eq s _ _ k (ws_ofN _) (by omega) (by omega) (by omega) (by omega), bind_s, val_ofN, Nat.add_zero]
end Go.Proofs.YtemfckibdojbbaaDoor.Nf

namespace Go.Proofs.YtemfckibdojbbaaDoor.Nf
open Go.RowKit Go.Proofs.YtemfckibdojbbaaDoor.PAll Go.Proofs.YtemfckibdojbbaaDoorW.PrintWords Go.Proofs.YtemfckibdojbbaaDoorW.PrintLast Go.Proofs.YtemfckibdojbbaaDoorW.PrintMore Go.Proofs.YtemfckibdojbbaaDoor.Nm
set_option linter.unusedVariables false
set_option linter.unusedSimpArgs false
theorem begins_eq (k : Nat) (hk : 1000 ≤ k) : ulplaw04_begins.f k = some true :=
 at_rounds ulplaw04_begins.mono hk (by decide +kernel)
structure Wl (l : List Int) : Prop where
 ws : Ws l
 len : l.length < 17592186044000
theorem wl_nil : Wl [] := ⟨ws_nil, by simp⟩
theorem wl_ofN {v : Nat} (h : (ofN v).length < 17592186044000) : Wl (ofN v) := ⟨ws_ofN v, h⟩
theorem wl_cf (s : Bool) {n : Nat} (e : Int) (h : (ofN n).length < 17592186044000) : Wl (cf s n e).2.1 := by
 by_cases z : n = 0
 ·rw [z, cf_zero]; exact wl_nil
 rw [cf_ne z]; exact wl_ofN (Nat.lt_of_le_of_lt (len_od n) h)
theorem wl_cz {Z : Int} (e : Int) (h : (ofN Z.natAbs).length < 17592186044000) : Wl (cz Z e).2.1 := wl_cf _ _ h
theorem Rs.wl {l : List Int} {e : Int} (h : Rs l e) : Wl l := ⟨h.ws, h.len⟩
theorem Rt.wl {l : List Int} {e : Int} (h : Rt l e) : Wl l := ⟨h.ws, h.len⟩
def bad (c : Int) : Bool × List Int × Int × Int := (false, [], 0, c)
noncomputable def canonS (s : Bool) (n : Nat) (e : Int) : Bool × List Int × Int × Int := if fits n e = true then roomS (cf s n e) else bad 2
theorem rs_len {l : List Int} {e : Int} (h : Rs l e) : (ofN (val l)).length < 17592186044000 := by have := h.sm; omega
theorem Canon_eq (s : Bool) (l : List Int) (e : Int) (k : Nat) (w : Wl l) (hk : 200000000000000000 ≤ k) : dyad_Canon.f k s l e = some (canonS s (val l) e) := by
 unfold dyad_Canon.f canonS
 rw [right_eq s l e k w.ws w.len (by omega), bind_s]
 by_cases h : fits (val l) e = true
 ·have g := rs_fits w.ws w.len h
  have c := wl_cf s e (rs_len g)
  rw [if_pos h, if_pos h]
  unfold dyad_number_same.f
  rw [One_eq s l e k g.t (by omega), bind_s, bind_s, room_eq _ _ _ k c.ws c.len (by omega), bind_s]
 rw [if_neg h, if_neg h]; rfl
theorem am_len {n : Nat} {e : Int} (h : (ofN n).length ≤ 16384) (h1 : e ≤ 2000000) : (ofN (am n e)).length ≤ 120000 := by
 refine Nat.le_trans (len_shl h _) ?_
 have : (e - lowE).toNat ≤ 6000000 := by unfold lowE; omega
 omega
theorem vl_abs (s : Bool) (l : List Int) (e : Int) : (vl s l e).natAbs = am (val l) e := by unfold vl; rw [Vz_am, sg_abs]
theorem len_vadd {s1 s2 : Bool} {l1 l2 : List Int} {e1 e2 : Int} (h1 : Rt l1 e1) (h2 : Rt l2 e2) : (ofN (vl s1 l1 e1 + vl s2 l2 e2).natAbs).length ≤ 120001 := by
 have a := am_len (n := val l1) (e := e1) (by have := h1.sm; omega) (by have := h1.hi; omega)
 have b := am_len (n := val l2) (e := e2) (by have := h2.sm; omega) (by have := h2.hi; omega)
 have c : (vl s1 l1 e1 + vl s2 l2 e2).natAbs ≤ am (val l1) e1 + am (val l2) e2 := by
  have := Int.natAbs_add_le (vl s1 l1 e1) (vl s2 l2 e2)
  rwa [vl_abs, vl_abs] at this
 exact Nat.le_trans (ofN_len_le c) (len_add a b)
theorem len_vsub {s1 s2 : Bool} {l1 l2 : List Int} {e1 e2 : Int} (h1 : Rt l1 e1) (h2 : Rt l2 e2) : (ofN (vl s1 l1 e1 - vl s2 l2 e2).natAbs).length ≤ 120001 := by
 have := len_vadd (s1 := s1) (s2 := !s2) h1 h2
 rwa [vl_neg, ← Int.sub_eq_add_neg] at this
noncomputable def twoS (Z : Int) (n1 : Nat) (e1 : Int) (n2 : Nat) (e2 : Int) : Bool × List Int × Int × Int := if fits n1 e1 = true ∧ fits n2 e2 = true then roomS (cz Z lowE) else bad 2
theorem dAdd_eq (s1 s2 : Bool) (l1 l2 : List Int) (e1 e2 : Int) (k : Nat) (w1 : Wl l1) (w2 : Wl l2) (hk : 200000000000000000 ≤ k) : dyad_Add.f k s1 l1 e1 s2 l2 e2 = some (twoS (vl s1 l1 e1 + vl s2 l2 e2) (val l1) e1 (val l2) e2) := by
 unfold dyad_Add.f twoS
 rw [right_eq s1 l1 e1 k w1.ws w1.len (by omega), bind_s]
 by_cases h1 : fits (val l1) e1 = true
 ·rw [if_pos h1, right_eq s2 l2 e2 k w2.ws w2.len (by omega), bind_s]
  by_cases h2 : fits (val l2) e2 = true
  ·have g1 := rs_fits w1.ws w1.len h1
   have g2 := rs_fits w2.ws w2.len h2
   have c := wl_cz lowE (Nat.lt_of_le_of_lt (len_vadd (s1 := s1) (s2 := s2) g1.t g2.t) (by decide))
   rw [if_pos h2, if_pos ⟨h1, h2⟩, Add_eq s1 s2 l1 l2 e1 e2 k g1.t g2.t hk, bind_s, room_eq _ _ _ k c.ws c.len (by omega), bind_s]
  rw [if_neg h2, if_neg (fun c => h2 c.2)]; rfl
 rw [if_neg h1, if_neg (fun c => h1 c.1)]; rfl
end Go.Proofs.YtemfckibdojbbaaDoor.Nf

namespace Go.Proofs.YtemfckibdojbbaaDoor.Nf
open Go.RowKit Go.Proofs.YtemfckibdojbbaaDoor.PAll Go.Proofs.YtemfckibdojbbaaDoorW.PrintWords Go.Proofs.YtemfckibdojbbaaDoorW.PrintLast Go.Proofs.YtemfckibdojbbaaDoorW.PrintMore Go.Proofs.YtemfckibdojbbaaDoor.Nm
set_option linter.unusedVariables false
set_option linter.unusedSimpArgs false
theorem wsame (s : Bool) {l : List Int} (e : Int) (k : Nat) (w : Wl l) (hk : 100000000000000000 ≤ k) : ulpref04_Same.f k s l e s l e = some true := by
  have := w.len
  unfold ulpref04_Same.f
  rw [if_pos (by simp), if_pos rfl, same_eq l k (by omega) (by omega), bind_s]
theorem rs_cf (s : Bool) {n : Nat} {e : Int} (hn : (ofN n).length ≤ 1100) (h0 : -40000 ≤ e) (h1 : e ≤ 40000) : Rs (cf s n e).2.1 (cf s n e).2.2 := by
  by_cases h : n = 0
  · rw [h, cf_zero]; exact ⟨ws_nil, by simp, by rw [val_nil, ofN_zero]; simp, by show (-200000 : Int) ≤ 0; omega, by show (0 : Int) ≤ 200000; omega⟩
  rw [cf_ne h]
  have a := len_od n
  have t := tz_lt h
  have b := bl_len hn
  refine ⟨ws_ofN _, ?_, ?_, ?_, ?_⟩
  · show (ofN (od n)).length < _; omega
  · show (ofN (val (ofN (od n)))).length ≤ _; rw [val_ofN]; omega
  · show -200000 ≤ e + (tz n : Int); omega
  show e + (tz n : Int) ≤ 200000; omega
theorem rs_fl (s : Bool) {n : Nat} {e : Int} (h : fits n e = true) : Rs (flS s n e).2.1 (flS s n e).2.2 := by
  obtain ⟨a, b, c⟩ := fits_iff.1 h
  have hl := len_big a
  unfold flS
  split
  · exact rs_cf s (by omega) (by omega) (by omega)
  refine rs_cf s ?_ (by omega) (by omega)
  have u := ofN_len_le (Nat.div_le_self (od n) (2 ^ (-(e + (tz n : Int))).toNat))
  have v := len_od n
  generalize od n / 2 ^ (-(e + (tz n : Int))).toNat = q at *
  have c : ∀ c, c ≤ 1 → (ofN (q + c)).length ≤ 1024 + 1 := fun c hc => len_succ (by omega) (by omega) c hc
  split
  · have := c 1 (Nat.le_refl _); omega
  have := c 0 (by omega); omega
theorem canon_ok {s : Bool} {n : Nat} {e : Int} (h : (canonS s n e).2.2.2 = 0) : fits n e = true ∧ canonS s n e = ((cf s n e).1, (cf s n e).2.1, (cf s n e).2.2, 0) ∧ fits (val (cf s n e).2.1) (cf s n e).2.2 = true := by
  unfold canonS at *
  by_cases g : fits n e = true
  · rw [if_pos g] at h ⊢
    unfold roomS at *
    by_cases f : fits (val (cf s n e).2.1) (cf s n e).2.2 = true
    · rw [if_pos f]; exact ⟨g, rfl, f⟩
    rw [if_neg f] at h; cases h
  rw [if_neg g] at h; cases h
noncomputable def floorAS (s : Bool) (n : Nat) (e : Int) : Bool × List Int × Int × Bool × List Int × Int × Int :=
  if (canonS s n e).2.2.2 = 0 then
    (let c := cf s n e
     let w := flS c.1 (val c.2.1) c.2.2
     let r := cz (vl c.1 c.2.1 c.2.2 - vl w.1 w.2.1 w.2.2) lowE
     if fits (val w.2.1) w.2.2 = true ∧ fits (val r.2.1) r.2.2 = true then (w.1, w.2.1, w.2.2, r.1, r.2.1, r.2.2, 0) else (false, [], 0, false, [], 0, 3))
  else (false, [], 0, false, [], 0, (canonS s n e).2.2.2)
theorem cf_rs (s : Bool) {l : List Int} {e : Int} (w : Wl l) (h : fits (val l) e = true) : Rs (cf s (val l) e).2.1 (cf s (val l) e).2.2 := by
  obtain ⟨a, b, c⟩ := fits_iff.1 h
  exact rs_cf s (by have := len_big a; omega) (by omega) (by omega)
theorem dFloor_eq (s : Bool) (l : List Int) (e : Int) (k : Nat) (w : Wl l) (hk : 300000000000000000 ≤ k) : dyad_Floor.f k s l e = some (floorAS s (val l) e) := by
  unfold dyad_Floor.f floorAS
  rw [Canon_eq s l e k w (by omega), bind_s]
  by_cases h : (canonS s (val l) e).2.2.2 = 0
  · obtain ⟨g, hc, f⟩ := canon_ok h
    have rc := cf_rs s w g
    rw [if_pos h, if_pos h, hc]
    generalize cf s (val l) e = c at *
    have rw_ := rs_fl c.1 f
    show (raw_Floor.f k c.1 c.2.1 c.2.2).bind _ = _
    rw [Floor_eq _ _ _ k rc.t (by omega), bind_s]
    simp only []
    generalize flS c.1 (val c.2.1) c.2.2 = v at *
    show (raw_Sub.f k c.1 c.2.1 c.2.2 v.1 v.2.1 v.2.2).bind _ = _
    have wr := wl_cz (Z := vl c.1 c.2.1 c.2.2 - vl v.1 v.2.1 v.2.2) lowE (Nat.lt_of_le_of_lt (len_vsub rc.t rw_.t) (by decide))
    rw [Sub_eq _ _ _ _ _ _ k rc.t rw_ (by omega), bind_s, Fits_eq _ _ _ k rw_.ws rw_.len (by omega), bind_s]
    generalize cz (vl c.1 c.2.1 c.2.2 - vl v.1 v.2.1 v.2.2) lowE = r at *
    rw [Fits_eq _ _ _ k wr.ws wr.len (by omega), bind_s]
    by_cases a : fits (val v.2.1) v.2.2 = true
    · rw [if_pos a]
      by_cases b : fits (val r.2.1) r.2.2 = true
      · rw [if_pos b, if_pos ⟨a, b⟩]
      rw [if_neg b, if_neg (fun c => b c.2)]
    rw [if_neg a, if_neg (fun c => a c.1)]
  rw [if_neg h, if_neg h]
end Go.Proofs.YtemfckibdojbbaaDoor.Nf

namespace Go.Proofs.YtemfckibdojbbaaDoor.Nf
open Go.RowKit Go.Proofs.YtemfckibdojbbaaDoor.PAll Go.Proofs.YtemfckibdojbbaaDoorW.PrintWords Go.Proofs.YtemfckibdojbbaaDoorW.PrintLast Go.Proofs.YtemfckibdojbbaaDoorW.PrintMore Go.Proofs.YtemfckibdojbbaaDoor.Nm
set_option linter.unusedVariables false
set_option linter.unusedSimpArgs false
theorem int_neg {n : Int} (h0 : -9223372036854775808 ≤ n) (h1 : n < 0) : IntKind.u64.wrap (-(IntKind.u64.wrap n)) = ((n.natAbs : Nat) : Int) := by
 rw [IntKind.wrap_u64, IntKind.wrap_u64]; omega
theorem int_pos {n : Int} (h0 : 0 ≤ n) (h1 : n < 9223372036854775808) : IntKind.u64.wrap n = ((n.natAbs : Nat) : Int) := by
 rw [IntKind.wrap_u64]; omega
theorem len_word {v : Nat} (h : v < 18446744073709551616) : (ofN v).length ≤ 1 := (ofN_len v 1).2 (by rw [Nat.pow_one]; exact h)
theorem Int_eq (n : Int) (k : Nat) (h0 : -9223372036854775808 ≤ n) (h1 : n < 9223372036854775808) (hk : 100000000000000000 ≤ k) : dyad_Int.f k n = some (cf (decide (n < 0)) n.natAbs 0) := by
 unfold dyad_Int.f raw_Int.f
 have hw : n.natAbs < 18446744073709551616 := by omega
 have hl := len_word hw
 by_cases h : n < 0
 ·rw [if_pos h, int_neg h0 h, lOf_eq _ hw, bind_s, Form_eq _ _ _ k (ws_ofN _) (by omega) (by omega) (by omega) hk, bind_s, bind_s, val_ofN]
 rw [if_neg h, int_pos (by omega) h1, lOf_eq _ hw, bind_s, Form_eq _ _ _ k (ws_ofN _) (by omega) (by omega) (by omega) hk, bind_s, bind_s, val_ofN]
theorem room_fits {d : Bool × List Int × Int} (h : fits (val d.2.1) d.2.2 = true) : roomS d = (d.1, d.2.1, d.2.2, 0) := by unfold roomS; exact if_pos h
theorem Vz_pos : 0 < Vz 1 0 := by unfold Vz; rw [Int.one_mul]; exact pow2_pos _
theorem Vz_split {j : Nat} {e : Int} (h : lowE ≤ e) (z : Int) : Vz z (e + j) = z * 2 ^ j * 2 ^ (e - lowE).toNat := by rw [← Vz_shl h]; rfl
theorem fl_bd (s : Bool) (n : Nat) {e : Int} (h : lowE ≤ e) : 0 ≤ Vz (sg s n) e - vl (flS s n e).1 (flS s n e).2.1 (flS s n e).2.2 ∧ Vz (sg s n) e - vl (flS s n e).1 (flS s n e).2.1 (flS s n e).2.2 < Vz 1 0 := by
 have hp := Vz_pos
 unfold flS
 by_cases g : n = 0 ∨ 0 ≤ e + (tz n : Int)
 ·rw [if_pos g, vl_cf h, Int.sub_self]; exact ⟨Int.le_refl _, hp⟩
 rw [if_neg g]
 have z : n ≠ 0 := fun c => g (.inl c)
 have g2 : ¬ 0 ≤ e + (tz n : Int) := fun c => g (.inr c)
 have h0 : lowE ≤ 0 := by unfold lowE; omega
 rw [vl_cf h0]
 have hN : 0 < (-(e + (tz n : Int))).toNat := by omega
 have odd := od_odd z _ hN
 have E1 : e + (tz n : Int) + ((-(e + (tz n : Int))).toNat : Int) = 0 := by omega
 have L : lowE ≤ e + (tz n : Int) := by omega
 rw [← vl_parts h s]
 generalize (-(e + (tz n : Int))).toNat = j at *
 generalize e + (tz n : Int) = a at *
 generalize od n = o at *
 have V1 : Vz 1 0 = 2 ^ j * 2 ^ (a - lowE).toNat := by rw [← E1, Vz_split L, Int.one_mul]
 have V2 : ∀ z : Int, Vz z 0 = z * 2 ^ j * 2 ^ (a - lowE).toNat := fun z => by rw [← E1, Vz_split L]
 have V3 : Vz (sg s o) a = sg s o * 2 ^ (a - lowE).toNat := rfl
 rw [V1, V2, V3]
 have hB := pow2_pos (a - lowE).toNat
 have hJ := pow2_pos j
 generalize (2 : Int) ^ (a - lowE).toNat = B at *
 have dm := Nat.div_add_mod o (2 ^ j)
 have lt := Nat.mod_lt o (Nat.pow_pos (n := j) (show 0 < 2 by decide))
 generalize o / 2 ^ j = q at *
 generalize hr : o % 2 ^ j = r at *
 have eJ := pow_int j
 generalize (2 : Nat) ^ j = J at *
 rw [← eJ] at hJ ⊢
 have key : ∀ R : Int, 0 ≤ R → R < (J : Int) → 0 ≤ R * B ∧ R * B < (J : Int) * B := fun R r0 r1 => ⟨Int.mul_nonneg r0 (Int.le_of_lt hB), Int.mul_lt_mul_of_pos_right r1 hB⟩
 cases s
 ·have e1 : sg false o * B - sg false (q + if false = true then 1 else 0) * (J : Int) * B = (r : Int) * B := by
   rw [← Int.sub_mul]
   congr 1
   show (o : Int) - ((q + 0 : Nat) : Int) * (J : Int) = (r : Int)
   rw [← dm, Nat.add_zero, Int.natCast_add, Int.natCast_mul, Int.mul_comm (J : Int) (q : Int)]; omega
  rw [e1]
  exact key _ (by omega) (by omega)
 have e1 : sg true o * B - sg true (q + if true = true then 1 else 0) * (J : Int) * B = ((J : Int) - (r : Int)) * B := by
  rw [← Int.sub_mul]
  congr 1
  show -(o : Int) - -((q + 1 : Nat) : Int) * (J : Int) = (J : Int) - (r : Int)
  rw [← dm, Int.natCast_add, Int.natCast_add, Int.natCast_mul, Int.neg_mul, Int.add_mul, Int.mul_comm (J : Int) (q : Int)]
  show -((q : Int) * (J : Int) + (r : Int)) - -((q : Int) * (J : Int) + 1 * (J : Int)) = _
  omega
 rw [e1]
 exact key _ (by omega) (by omega)
theorem cf_exp (s : Bool) (n : Nat) {e : Int} (h : 0 ≤ e) : 0 ≤ (cf s n e).2.2 := by
 by_cases z : n = 0
 ·rw [z, cf_zero]; exact Int.le_refl _
 rw [cf_ne z]; show 0 ≤ e + (tz n : Int); omega
theorem fl_exp (s : Bool) (n : Nat) (e : Int) : 0 ≤ (flS s n e).2.2 := by
 unfold flS
 split
 ·rename_i h
  rcases h with z | h
  ·rw [z, cf_zero]; exact Int.le_refl _
  by_cases z : n = 0
  ·rw [z, cf_zero]; exact Int.le_refl _
  rw [cf_ne z]; exact h
 exact cf_exp _ _ (Int.le_refl _)
theorem cz_sign {Z : Int} (h : 0 ≤ Z) : (cz Z lowE).1 = false := by
 unfold cz cf
 split
 ·rfl
 exact decide_eq_false (by omega)
theorem cz_self (s : Bool) (n : Nat) {e : Int} (h : lowE ≤ e) : cz (vl (cf s n e).1 (cf s n e).2.1 (cf s n e).2.2) lowE = cf s n e := by
 rw [vl_cf h, ← cz_Vz h, ← cf_cz]
theorem cmpZ_lt {x y : Int} (h : x < y) : cmpZ x y = -1 := if_pos h
end Go.Proofs.YtemfckibdojbbaaDoor.Nf

namespace Go.Proofs.YtemfckibdojbbaaDoor.Pure
open Go.RowKit Go.Proofs.YtemfckibdojbbaaDoor.PAll Go.Proofs.YtemfckibdojbbaaDoorW.PrintWords Go.Proofs.YtemfckibdojbbaaDoorW.PrintLast Go.Proofs.YtemfckibdojbbaaDoorW.PrintMore
set_option linter.unusedVariables false
set_option linter.unusedSimpArgs false
open Go.Proofs.YtemfckibdojbbaaDoor.Nm Go.Proofs.YtemfckibdojbbaaDoor.Nf
theorem DyadParts (s0 : Bool) (l0 : List Int) (e0 : Int) (n0 : l0.length * 8 ≤ 140737488351232) (w0 : ∀ x ∈ l0, (Lit.int .u64 x).wf = true) (_ : (Lit.int .i64 e0).wf = true) : ∃ k, ulplaw04_DyadParts.f k s0 l0 e0 = some true := by
 have h0 : Wl l0 := ⟨ws_wf w0, by omega⟩
 obtain ⟨k, hk⟩ : ∃ k, k = 300000000000000000 := ⟨_, rfl⟩
 have hk0 : 300000000000000000 ≤ k := by omega
 clear hk
 refine ⟨k + 1, ?_⟩
 unfold ulplaw04_DyadParts.f
 rw [begins_eq (k + 1) (by omega), bind_s, if_pos rfl, dFloor_eq s0 l0 e0 (k + 1) h0 (by omega), bind_s, Canon_eq s0 l0 e0 (k + 1) h0 (by omega), bind_s]
 have none_ : ∀ (c : Int) (b : Bool) (l : List Int) (e : Int), c ≠ 0 → ulplaw04_DyadParts.j0 (k + 1) c false false [] 0 false [] 0 b l e = some true := by
  intro c b l e hc
  simp only [ulplaw04_DyadParts.j0]
  rw [if_neg (by decide), if_neg hc]
  rfl
 by_cases h : (canonS s0 (val l0) e0).2.2.2 = 0
 ·obtain ⟨g, hc, f⟩ := canon_ok h
  have rc := cf_rs s0 h0 g
  obtain ⟨b1, b2, b3⟩ := fits_iff.1 g
  have le : lowE ≤ e0 := by unfold lowE; omega
  have hself := cz_self s0 (val l0) le
  unfold floorAS
  rw [if_pos h, hc]
  generalize cf s0 (val l0) e0 = c at *
  have rw_ := rs_fl c.1 f
  obtain ⟨f1, f2⟩ := fl_bd c.1 (val c.2.1) rc.t.lowE
  have fe := fl_exp c.1 (val c.2.1) c.2.2
  simp only []
  generalize flS c.1 (val c.2.1) c.2.2 = v at *
  have hv : Vz (sg c.1 (val c.2.1)) c.2.2 = vl c.1 c.2.1 c.2.2 := rfl
  rw [hv] at f1 f2
  have wr := wl_cz (Z := vl c.1 c.2.1 c.2.2 - vl v.1 v.2.1 v.2.2) lowE (Nat.lt_of_le_of_lt (len_vsub rc.t rw_.t) (by decide))
  have hneg := cz_sign f1
  have hval := vl_cz (vl c.1 c.2.1 c.2.2 - vl v.1 v.2.1 v.2.2)
  generalize cz (vl c.1 c.2.1 c.2.2 - vl v.1 v.2.1 v.2.2) lowE = r at *
  by_cases q : fits (val v.2.1) v.2.2 = true ∧ fits (val r.2.1) r.2.2 = true
  ·rw [if_pos q]
   have rr := rs_fits wr.ws wr.len q.2
   have e1 : twoS (vl v.1 v.2.1 v.2.2 + vl r.1 r.2.1 r.2.2) (val v.2.1) v.2.2 (val r.2.1) r.2.2 = (c.1, c.2.1, c.2.2, 0) := by
    unfold twoS
    rw [if_pos q, hval, show vl v.1 v.2.1 v.2.2 + (vl c.1 c.2.1 c.2.2 - vl v.1 v.2.1 v.2.2) = vl c.1 c.2.1 c.2.2 by omega, hself]
    exact room_fits f
   show (if (0 : Int) = 0 then ulplaw04_DyadParts.j0 (k + 1) 0 false v.1 v.2.1 v.2.2 r.1 r.2.1 r.2.2 c.1 c.2.1 c.2.2 else _) = _
   rw [if_pos rfl]
   simp only [ulplaw04_DyadParts.j0]
   have one := Int_eq 1 k (by omega) (by omega) (by omega)
   have r1 := rs_cf (decide ((1 : Int) < 0)) (n := (1 : Int).natAbs) (e := 0) (by have := len_word (v := (1 : Int).natAbs) (by decide); omega) (by omega) (by omega)
   have v1 := vl_cf (e := 0) (by unfold lowE; omega) (decide ((1 : Int) < 0)) (1 : Int).natAbs
   have lt : cmpZ (vl r.1 r.2.1 r.2.2) (vl (cf (decide ((1 : Int) < 0)) (1 : Int).natAbs 0).1 (cf (decide ((1 : Int) < 0)) (1 : Int).natAbs 0).2.1 (cf (decide ((1 : Int) < 0)) (1 : Int).natAbs 0).2.2) = -1 := by
    rw [v1, hval]; exact cmpZ_lt f2
   rw [if_neg (by decide), if_pos trivial, dAdd_eq v.1 r.1 v.2.1 r.2.1 v.2.2 r.2.2 k rw_.wl rr.wl (by omega), bind_s, e1]
   show (if (0 : Int) = 0 then _ else _) = _
   rw [if_pos rfl]
   show ((ulpref04_Same.f k c.1 c.2.1 c.2.2 c.1 c.2.1 c.2.2).bind _) = _
   rw [wsame _ _ k rc.wl (by omega), bind_s, if_pos rfl, if_pos fe, hneg, if_neg (by decide), one, bind_s, rOrder_eq _ _ _ _ _ _ k rr.t r1 (by omega), bind_s, ← hneg, lt]; rfl
  rw [if_neg q]
  dsimp only
  rw [if_neg (by decide), if_pos rfl, show ((0 : Int) != 0) = false from rfl]
  exact none_ 3 c.1 c.2.1 c.2.2 (by decide)
 unfold floorAS
 rw [if_neg h]
 dsimp only
 rw [if_pos rfl]
 exact none_ _ _ _ _ h
end Go.Proofs.YtemfckibdojbbaaDoor.Pure
