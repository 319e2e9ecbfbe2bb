/- Plain part. -/
import Derived.Test.YtnjfckadjklmfaaDoorXRoundPointsN0
import Derived.Test.YtnjfckadjklmfaaDoorXRoundPointsN1
import Derived.Test.YtnjfckadjklmfaaDoorXRoundPointsP1
import Derived.Test.YtnjfckadjklmfaaDoorXRoundPointsP2
import Derived.Test.YtnjfckadjklmfaaDoorXRoundPointsP4
import Derived.Test.YtnjfckadjklmfaaDoorXRoundPointsP5
import Derived.Test.YtnjfckadjklmfaaDoorXRoundPointsP0
import Derived.Test.YtnjfckadjklmfaaDoorXRoundPointsP6
import Derived.Test.YtnjfckadjklmfaaDoorXRoundPointsP12
import Derived.Test.YtnjfckadjklmfaaDoorXRoundPointsP13
import Derived.Test.YtnjfckadjklmfaaDoorXRoundPointsP14
import Derived.Test.YtnjfckadjklmfaaDoorXRoundPointsP15
import Derived.Test.YtnjfckadjklmfaaDoorXRoundPointsP19
namespace Go.Proofs.YtnjfckadjklmfaaDoor.Nf
open Go.RowKit Go.Proofs.YtnjfckadjklmfaaDoor.PAll Go.Proofs.YtnjfckadjklmfaaDoorW.PrintWords Go.Proofs.YtnjfckadjklmfaaDoorW.PrintLast Go.Proofs.YtnjfckadjklmfaaDoorW.PrintMore Go.Proofs.YtnjfckadjklmfaaDoor.Nm
set_option linter.unusedVariables false
set_option linter.unusedSimpArgs false
def rndI (v : Nat) (e E : Int) : Nat := if E ≤ e then v * 2 ^ (e - E).toNat else rnd v (E - e).toNat
def lostI (v : Nat) (e E : Int) : Bool := if E ≤ e then false else decide (v % 2 ^ (E - e).toNat ≠ 0)
theorem word_ofN {v : Nat} (h : v < 18446744073709551616) : round_word.f (ofN v) = some (v : Int) := by
 unfold round_word.f
 by_cases h0 : v = 0
 ·subst h0; rw [ofN_zero]; rfl
 rw [ofN_word h0 h]; rfl
theorem pow_le_of {v n m : Nat} (h : bl v ≤ n + m) : v / 2 ^ n < 2 ^ m := by
 rw [Nat.div_lt_iff_lt_mul (Nat.pow_pos (by decide)), ← Nat.pow_add, Nat.add_comm m n]
 exact Nat.lt_of_lt_of_le (bl_lt v) (Nat.pow_le_pow_right (by decide) h)
theorem pow_le_mul {v n m : Nat} (h : bl v + n ≤ m) : v * 2 ^ n < 2 ^ m := by
 by_cases h0 : v = 0
 ·subst h0; rw [Nat.zero_mul]; exact Nat.pow_pos (by decide)
 have := bl_lt (v * 2 ^ n)
 rw [bl_shl h0] at this
 exact Nat.lt_of_lt_of_le this (Nat.pow_le_pow_right (by decide) h)
theorem p54 : (2 : Nat) ^ 54 = 18014398509481984 := by decide
theorem rnd_lt {v n m : Nat} (hn : 1 ≤ n) (h : bl v ≤ n + m) : rnd v n ≤ 2 ^ m := by
 refine rnd_le hn ?_
 rw [← Nat.pow_add, Nat.add_comm m n]
 exact Nat.le_of_lt (Nat.lt_of_lt_of_le (bl_lt v) (Nat.pow_le_pow_right (by decide) h))
theorem rndI_le {v : Nat} {e E : Int} {m : Nat} (h : (bl v : Int) + e - E ≤ m) : rndI v e E ≤ 2 ^ m := by
 unfold rndI
 split
 ·exact Nat.le_of_lt (pow_le_mul (by omega))
 exact rnd_lt (by omega) (by omega)
theorem up1 {q : Nat} (h : q < 18014398509481984) : IntKind.u64.wrap ((q : Int) + 1) = ((q + 1 : Nat) : Int) := by rw [IntKind.wrap_u64]; omega
theorem at_eq (v : Nat) (e E : Int) (k : Nat) (hv : v < big) (e0 : -300000 ≤ e) (e1 : e ≤ 300000) (h0 : -300000 ≤ E) (h1 : E ≤ 300000) (hT : (bl v : Int) + e - E ≤ 54) (hk : 100000000 ≤ k) :
  round_amount_at.f k (ofN v) e E = some (((rndI v e E : Nat) : Int), lostI v e E) := by
 have len : (ofN v).length < 17592186044000 := by have := len_big hv; omega
 have len2 := len_big hv
 unfold round_amount_at.f rndI lostI
 by_cases c : E ≤ e
 ·have n0 : wrap64 (e - E) = (((e - E).toNat : Nat) : Int) := sub_nat c (by omega)
  rw [if_pos (show e ≥ E from c), if_pos c, if_pos c, n0, Shl_eq (ofN v) _ k (ws_ofN v) len (by omega), val_ofN, bind_s]
  have hb : bl v + (e - E).toNat ≤ 54 := by omega
  generalize (e - E).toNat = n at hb ⊢
  have hs : (shlS v (n : Int)).1 = ofN (v * 2 ^ n) := by
   unfold shlS
   rw [if_pos hv, if_neg (by omega)]
   by_cases z : v = 0
   ·rw [if_pos z, z, Nat.zero_mul, ofN_zero]
   rw [if_neg z, Int.toNat_natCast, if_pos (by omega)]
  rw [hs, word_ofN (by have := pow_le_mul hb; rw [p54] at this; omega), bind_s]
 have n0 : wrap64 (E - e) = (((E - e).toNat : Nat) : Int) := sub_nat (by omega) (by omega)
 rw [if_neg (show ¬ e ≥ E from c), if_neg c, if_neg c, n0]
 have n1 : 1 ≤ (E - e).toNat := by omega
 have hb : bl v ≤ (E - e).toNat + 54 := by omega
 have nl : (E - e).toNat ≤ 600000 := by omega
 generalize (E - e).toNat = n at n1 hb nl ⊢
 have n2 : wrap64 ((n : Int) - 1) = ((n - 1 : Nat) : Int) := by unfold wrap64; omega
 rw [n2, Shr_eq (ofN v) _ k (ws_ofN v) (by omega) len (by omega), val_ofN, bind_s]
 have hs : shrS v (n : Int) = (ofN (v / 2 ^ n), decide (v % 2 ^ n ≠ 0), 0) := by
  unfold shrS
  rw [if_pos hv, if_neg (by omega), Int.toNat_natCast]
 have hq : v / 2 ^ n < 18014398509481984 := by have := pow_le_of hb; rw [p54] at this; exact this
 rw [hs]
 show (round_word.f (ofN (v / 2 ^ n))).bind _ = _
 rw [word_ofN (by omega), bind_s, Bit_eq (ofN v) _ k (ws_ofN v) (by omega) len (by omega), val_ofN, if_pos hv, if_neg (by omega), Int.toNat_natCast, bind_s]
 obtain ⟨a1, a2, a3⟩ := Low_eq (ofN v) k (ws_ofN v) len (by omega)
 rw [val_ofN] at a2 a3
 have low : ∃ t : Int, nat_Low.f k (ofN v) = some (t, 0) ∧ (v ≠ 0 → (t < ((n - 1 : Nat) : Int) ↔ v % 2 ^ (n - 1) ≠ 0)) := by
  by_cases z : v = 0
  ·exact ⟨0, a2 z, fun c => absurd z c⟩
  obtain ⟨t, m, e⟩ := low_form v z
  refine ⟨(t : Int), a3 hv t m e, fun _ => ?_⟩
  rw [e, low_mod_ne]; omega
 obtain ⟨t, l1, l2⟩ := low
 rw [l1, bind_s]
 show (if decide (v / 2 ^ (n - 1) % 2 = 1) = true then _ else _) = _
 unfold rnd
 by_cases h : v / 2 ^ (n - 1) % 2 = 1
 ·have z : v ≠ 0 := by rintro rfl; rw [Nat.zero_div] at h; exact absurd h (by decide)
  rw [if_pos (decide_eq_true h)]
  show (if t < ((n - 1 : Nat) : Int) then _ else _) = _
  have w1 : IntKind.u64.wrap (((v / 2 ^ n : Nat) : Int) + 1) = ((v / 2 ^ n + 1 : Nat) : Int) := up1 hq
  by_cases s : v % 2 ^ (n - 1) ≠ 0
  ·rw [if_pos ((l2 z).2 s), if_pos ⟨h, .inl s⟩, w1]
  rw [if_neg (fun c => s ((l2 z).1 c))]
  have ad := and1 (w := v / 2 ^ n) (by omega)
  by_cases o : v / 2 ^ n % 2 = 1
  ·rw [if_pos (by rw [ad, o]; rfl), if_pos ⟨h, .inr o⟩, w1]
  rw [if_neg (by rw [ad]; omega), if_neg (fun c => c.2.elim s o), Nat.add_zero]
 rw [if_neg (by rw [decide_eq_true_iff]; exact h), if_neg (fun c => h c.1), Nat.add_zero]
theorem zero_eq (v : Nat) (e : Int) : round_amount_zero.f (ofN v) e = some (decide (v = 0)) := by
 unfold round_amount_zero.f
 congr 1
 rw [Bool.eq_iff_iff, decide_eq_true_iff, beq_iff_eq, len0]
def topI (v : Nat) (e : Int) : Int := (bl v : Int) + e
theorem top_eq (v : Nat) (e : Int) (k : Nat) (hv : v < big) (e0 : -300000 ≤ e) (e1 : e ≤ 300000) (hk : 100000000 ≤ k) : round_amount_top.f k (ofN v) e = some (topI v e) := by
 have len := len_big hv
 unfold round_amount_top.f topI
 rw [Len_eq (ofN v) k (ws_ofN v) (by omega) (by omega), val_ofN, if_pos hv, bind_s]
 have := big_lt_iff.1 hv
 show some (wrap64 ((bl v : Int) + e)) = _
 rw [show wrap64 ((bl v : Int) + e) = (bl v : Int) + e by unfold wrap64; omega]
def expI (v : Nat) (e : Int) : Int := max (topI v e - 53) (-1074)
def INFc : Int := 9218868437227405312
def codeI (v : Nat) (e : Int) : Int := (expI v e + 1074) * 4503599627370496 + (rndI v e (expI v e) : Int)
def mbI (v : Nat) (e : Int) : Int := if v = 0 then 0 else if 1024 < topI v e then INFc else if topI v e < -1074 then 0 else min INFc (codeI v e)
def lsI (v : Nat) (e : Int) : Bool := if v = 0 then false else if 1024 < topI v e then true else if topI v e < -1074 then true else decide (INFc ≤ codeI v e) || lostI v e (expI v e)
def tinyI (v : Nat) (e : Int) : Bool := if v = 0 then false else if topI v e = -1022 then decide (rndI v e (-1075) < 9007199254740992) else decide (topI v e < -1022)
theorem dec_cast (n : Nat) : decide ((n : Int) < 9007199254740992) = decide (n < 9007199254740992) := by
 rw [Bool.eq_iff_iff, decide_eq_true_iff, decide_eq_true_iff]; omega
theorem tiny_eq (v : Nat) (e : Int) (k : Nat) (hv : v < big) (e0 : -300000 ≤ e) (e1 : e ≤ 300000) (hk : 100000000 ≤ k) : round_amount_tiny.f k (ofN v) e = some (tinyI v e) := by
 unfold round_amount_tiny.f tinyI
 rw [zero_eq, bind_s]
 by_cases z : v = 0
 ·rw [if_pos (decide_eq_true z), if_pos z]
 rw [if_neg (by rw [decide_eq_true_iff]; exact z), if_neg z, top_eq v e k hv e0 e1 hk, bind_s]
 by_cases c : topI v e = -1022
 ·rw [if_pos c, if_pos c, c, show wrap64 (-1022 - 53) = -1075 by unfold wrap64; omega, at_eq v e (-1075) k hv e0 e1 (by omega) (by omega) (by unfold topI at c; omega) hk, bind_s]
  exact congrArg some (dec_cast _)
 rw [if_neg c, if_neg c]
theorem rndI_ge {v : Nat} {e : Int} (z : v ≠ 0) : 4503599627370496 ≤ rndI v e (topI v e - 53) := by
 have b := bl_range z
 unfold rndI topI
 rw [show (4503599627370496 : Nat) = 2 ^ 52 by decide]
 split
 ·have hb : bl v ≤ 53 := by omega
  rw [show (e - ((bl v : Int) + e - 53)).toNat = 53 - bl v by omega]
  refine Nat.le_trans ?_ (Nat.mul_le_mul_right _ b.1)
  rw [← Nat.pow_add]; exact Nat.pow_le_pow_right (by decide) (by omega)
 rw [show ((bl v : Int) + e - 53 - e).toNat = bl v - 53 by omega]
 refine rnd_ge ?_
 rw [← Nat.pow_add, show 52 + (bl v - 53) = bl v - 1 by omega]
 exact b.1
theorem put_w {E : Int} {q : Nat} (h0 : -1074 ≤ E) (h1 : E ≤ 971) (q0 : 4503599627370496 ≤ q) (q1 : q ≤ 9007199254740992) :
  IntKind.u64.wrap ((IntKind.u64.wrap ((IntKind.u64.wrap ((IntKind.u64.wrap (wrap64 (E + 1075))) * 4503599627370496)) + (q : Int))) - 4503599627370496) = (E + 1074) * 4503599627370496 + (q : Int) := by
 rw [show wrap64 (E + 1075) = E + 1075 by unfold wrap64; omega, Nb.wrapU (x := E + 1075) (by omega) (by omega), Nb.wrapU (x := (E + 1075) * 4503599627370496) (by omega) (by omega), Nb.wrapU (x := (E + 1075) * 4503599627370496 + q) (by omega) (by omega), Nb.wrapU (by omega) (by omega)]
 omega
theorem nj0 (k : Nat) (E q : Int) (l : Bool) : round_amount_nearest.j0 (k + 1) E q l = if q < 4503599627370496 then some (q, l) else if E > 971 then some (INFc, true) else some (IntKind.u64.wrap ((IntKind.u64.wrap ((IntKind.u64.wrap ((IntKind.u64.wrap (wrap64 (E + 1075))) * 4503599627370496)) + q)) - 4503599627370496), l) := rfl
theorem nearest_j0 (k : Nat) (E : Int) (q : Nat) (l : Bool) (h0 : -1074 ≤ E) (h1 : E ≤ 300000) (hq : q ≤ 9007199254740992) (hs : q < 4503599627370496 → E = -1074) :
  round_amount_nearest.j0 (k + 1) (if (q : Int) = 9007199254740992 then E + 1 else E) (if (q : Int) = 9007199254740992 then (q : Int) / 2 else (q : Int)) l = some (min INFc ((E + 1074) * 4503599627370496 + (q : Int)), decide (INFc ≤ (E + 1074) * 4503599627370496 + (q : Int)) || l) := by
 rw [nj0]
 unfold INFc
 by_cases c : (q : Int) = 9007199254740992
 ·rw [if_pos c, if_pos c, c, if_neg (by omega)]
  by_cases d : E + 1 > 971
  ·rw [if_pos d, Int.min_eq_left (by omega), decide_eq_true (by omega), Bool.true_or]
  have := put_w (E := E + 1) (q := 4503599627370496) (by omega) (by omega) (by omega) (by omega)
  rw [if_neg d, show ((9007199254740992 : Int) / 2) = ((4503599627370496 : Nat) : Int) by decide, this, decide_eq_false (by omega), Bool.false_or, Int.min_eq_right (by omega)]
  congr 2; omega
 rw [if_neg c, if_neg c]
 by_cases s : (q : Int) < 4503599627370496
 ·rw [if_pos s, hs (by omega), decide_eq_false (by omega), Bool.false_or, Int.min_eq_right (by omega)]
  congr 2; omega
 rw [if_neg s]
 by_cases d : E > 971
 ·rw [if_pos d, Int.min_eq_left (by omega), decide_eq_true (by omega), Bool.true_or]
 rw [if_neg d, put_w h0 (by omega) (by omega) hq, decide_eq_false (by omega), Bool.false_or, Int.min_eq_right (by omega)]
theorem nj_case (k : Nat) (E q : Int) (l : Bool) (h0 : -1074 ≤ E) (h1 : E ≤ 300000) : (if q = 9007199254740992 then round_amount_nearest.j0 k (wrap64 (E + 1)) (q / 2) l else round_amount_nearest.j0 k E q l) = round_amount_nearest.j0 k (if q = 9007199254740992 then E + 1 else E) (if q = 9007199254740992 then q / 2 else q) l := by
 rw [show wrap64 (E + 1) = E + 1 by unfold wrap64; omega]
 split <;> rfl
theorem mx_eq (a b : Int) : mx a b = max a b := by
 unfold mx; split <;> omega
theorem expI_small {v : Nat} {e : Int} (z : v ≠ 0) (h : rndI v e (expI v e) < 4503599627370496) : expI v e = -1074 := by
 have := rndI_ge (v := v) (e := e) z
 unfold expI at *
 by_cases c : topI v e - 53 ≤ -1074
 ·omega
 rw [Int.max_eq_left (by omega)] at h; omega
theorem expI_le (v : Nat) (e : Int) : rndI v e (expI v e) ≤ 9007199254740992 := by
 have := rndI_le (v := v) (e := e) (E := expI v e) (m := 53) (by unfold expI topI; omega)
 exact Nat.le_trans this (by decide)
theorem nearest_eq (v : Nat) (e : Int) (k : Nat) (hv : v < big) (e0 : -200000 ≤ e) (e1 : e ≤ 200000) (hk : 100000000 ≤ k) : round_amount_nearest.f k (ofN v) e = some (mbI v e, lsI v e) := by
 have hb := big_lt_iff.1 hv
 unfold round_amount_nearest.f mbI lsI
 rw [top_eq v e k hv (by omega) (by omega) hk, bind_s, zero_eq, bind_s]
 by_cases z : v = 0
 ·rw [if_pos (decide_eq_true z), if_pos z, if_pos z]
 rw [if_neg (by rw [decide_eq_true_iff]; exact z), if_neg z, if_neg z]
 by_cases c1 : 1024 < topI v e
 ·rw [if_pos c1, if_pos c1, if_pos c1]; rfl
 rw [if_neg c1, if_neg c1, if_neg c1]
 by_cases c2 : topI v e < -1074
 ·rw [if_pos c2, if_pos c2, if_pos c2]
 rw [if_neg c2, if_neg c2, if_neg c2, show wrap64 (topI v e - 53) = topI v e - 53 by unfold wrap64; omega, mx_eq]
 show (round_amount_at.f k (ofN v) e (expI v e)).bind _ = _
 have l0 : -1074 ≤ expI v e := by unfold expI; omega
 have l1 : expI v e ≤ 971 := by unfold expI; omega
 rw [at_eq v e (expI v e) k hv (by omega) (by omega) (by omega) (by omega) (by unfold expI topI; omega) hk, bind_s]
 have sm := expI_small (e := e) z
 have le := expI_le v e
 obtain ⟨k, rfl⟩ : ∃ j, k = j + 1 := ⟨k - 1, by omega⟩
 have := nearest_j0 k (expI v e) (rndI v e (expI v e)) (lostI v e (expI v e)) l0 (by omega) le sm
 exact (nj_case (k + 1) (expI v e) _ _ l0 (by omega)).trans this
end Go.Proofs.YtnjfckadjklmfaaDoor.Nf

namespace Go.Proofs.YtnjfckadjklmfaaDoor.Nf
open Go.RowKit Go.Proofs.YtnjfckadjklmfaaDoor.PAll Go.Proofs.YtnjfckadjklmfaaDoorW.PrintWords Go.Proofs.YtnjfckadjklmfaaDoorW.PrintLast Go.Proofs.YtnjfckadjklmfaaDoorW.PrintMore Go.Proofs.YtnjfckadjklmfaaDoor.Nm
set_option linter.unusedVariables false
set_option linter.unusedSimpArgs false
def KK : Nat := (-1074 - lowE).toNat
theorem KK_eq : (KK : Int) = -1074 - lowE := by unfold KK lowE; omega
theorem KK_2 : 2 ≤ KK := by have := KK_eq; unfold lowE at this; omega
theorem rnd_scale (v j : Nat) {n : Nat} (hn : 1 ≤ n) : rnd (v * 2 ^ j) (n + j) = rnd v n := by
 have l := Nat.mod_lt v (two_pow_pos' n)
 have e := Nat.div_add_mod v (2 ^ n)
 have p := two_pow_pos' j
 have e2 : v * 2 ^ j = v / 2 ^ n * 2 ^ (n + j) + v % 2 ^ n * 2 ^ j := by
  rw [Nat.pow_add, ← Nat.mul_assoc, ← Nat.add_mul, Nat.mul_comm (v / 2 ^ n), e]
 have l2 : v % 2 ^ n * 2 ^ j < 2 ^ (n + j) := by
  rw [Nat.pow_add]; exact Nat.mul_lt_mul_of_pos_right l p
 rw [e2, rnd_of (by omega) l2, rnd_char v hn]
 congr 1
 have c1 : 2 ^ (n + j) < 2 * (v % 2 ^ n * 2 ^ j) ↔ 2 ^ n < 2 * (v % 2 ^ n) := by
  rw [Nat.pow_add, ← Nat.mul_assoc]; exact Nat.mul_lt_mul_right p
 have c2 : 2 * (v % 2 ^ n * 2 ^ j) = 2 ^ (n + j) ↔ 2 * (v % 2 ^ n) = 2 ^ n := by
  rw [Nat.pow_add, ← Nat.mul_assoc]; exact Nat.mul_right_cancel_iff p
 simp only [c1, c2]
theorem am_shl {v : Nat} {e E : Int} (h : lowE ≤ E) (h2 : E ≤ e) : am v e = v * 2 ^ (e - E).toNat * 2 ^ (E - lowE).toNat := by
 unfold am
 rw [Nat.mul_assoc, ← Nat.pow_add]
 congr 2; omega
theorem rndI_am {v : Nat} {e E : Int} (h : lowE ≤ e) (h2 : lowE < E) : rndI v e E = rnd (am v e) (E - lowE).toNat := by
 unfold rndI
 by_cases c : E ≤ e
 ·rw [if_pos c, am_shl (Int.le_of_lt h2) c, rnd_mul _ (by omega)]
 rw [if_neg c, show (E - lowE).toNat = (E - e).toNat + (e - lowE).toNat by omega]
 unfold am
 rw [rnd_scale _ _ (by omega)]
theorem lostI_am {v : Nat} {e E : Int} (h : lowE ≤ e) (h2 : lowE < E) : lostI v e E = decide (am v e % 2 ^ (E - lowE).toNat ≠ 0) := by
 unfold lostI
 by_cases c : E ≤ e
 ·rw [if_pos c, am_shl (Int.le_of_lt h2) c, Nat.mul_mod_left]; rfl
 rw [if_neg c, show (E - lowE).toNat = (E - e).toNat + (e - lowE).toNat by omega]
 unfold am
 rw [Nat.pow_add, Nat.mul_mod_mul_right, Bool.eq_iff_iff, decide_eq_true_iff, decide_eq_true_iff]
 have p := two_pow_pos' (e - lowE).toNat
 refine not_congr ⟨fun c => by rw [c, Nat.zero_mul], fun c => ?_⟩
 rcases Nat.mul_eq_zero.1 c with c | c
 ·exact c
 omega
theorem sh_eq {v : Nat} {e : Int} (z : v ≠ 0) (h : lowE ≤ e) : shA KK (am v e) = (expI v e - lowE).toNat := by
 have b := am_bl z h
 have k := KK_eq
 unfold shA expI topI
 unfold lowE at *
 omega
theorem am_small {v : Nat} {e : Int} (z : v ≠ 0) (h : lowE ≤ e) (c : topI v e < -1074) : am v e < 2 ^ (KK - 1) := by
 rw [← bl_le_iff]
 have b := am_bl z h
 have k := KK_eq
 unfold topI at c
 unfold lowE at *
 omega
theorem rnd_less {A n : Nat} (hn : 1 ≤ n) (h : A < 2 ^ (n - 1)) : rnd A n = 0 := by
 have e : 2 ^ n = 2 ^ (n - 1) * 2 := by rw [← Nat.pow_succ]; congr 1; omega
 have := rnd_of (m := 0) (n := n) (r := A) hn (by omega)
 rw [Nat.zero_mul, Nat.zero_add, Nat.zero_add] at this
 rw [this, if_neg (by omega)]
theorem am_zero (e : Int) : am 0 e = 0 := Nat.zero_mul _
theorem cd_eq {v : Nat} {e : Int} (z : v ≠ 0) (h : lowE ≤ e) : ((cdA KK (am v e) : Nat) : Int) = codeI v e := by
 have k := KK_eq
 have l : lowE < expI v e := by unfold expI; unfold lowE; omega
 unfold cdA codeI
 rw [sh_eq z h, rndI_am h l]
 generalize rnd (am v e) (expI v e - lowE).toNat = q
 have : (((expI v e - lowE).toNat - KK : Nat) : Int) = expI v e + 1074 := by
  have : -1074 ≤ expI v e := by unfold expI; omega
  unfold lowE at *; omega
 omega
theorem code_big {v : Nat} {e : Int} (z : v ≠ 0) (h : lowE ≤ e) (c : 1024 < topI v e) : INFc ≤ codeI v e := by
 have := rndI_ge (e := e) z
 unfold codeI INFc
 rw [show expI v e = topI v e - 53 by unfold expI; omega]
 omega
theorem code_none {v : Nat} {e : Int} (z : v ≠ 0) (h : lowE ≤ e) (c : topI v e < -1074) : codeI v e = 0 := by
 rw [← cd_eq z h]
 have s := sh_eq z h
 have k := KK_eq
 have : expI v e = -1074 := by unfold expI; omega
 rw [this, ← k, Int.toNat_natCast] at s
 unfold cdA
 rw [s, rnd_less (by have := KK_2; omega) (am_small z h c), Nat.sub_self]
 rfl
theorem INn_eq : ((INn : Nat) : Int) = INFc := rfl
theorem mb_eq (v : Nat) {e : Int} (h : lowE ≤ e) : mbI v e = ((mbA KK (am v e) : Nat) : Int) := by
 unfold mbI mbA
 by_cases z : v = 0
 ·subst z; rw [if_pos rfl, am_zero, cdA_zero]; rfl
 rw [if_neg z]
 have cd := cd_eq z h
 have i := INn_eq
 have c0 : (0 : Int) ≤ INFc := by decide
 by_cases c1 : 1024 < topI v e
 ·have := code_big z h c1
  rw [if_pos c1]; omega
 rw [if_neg c1]
 by_cases c2 : topI v e < -1074
 ·have := code_none z h c2
  rw [if_pos c2]; omega
 rw [if_neg c2]; omega
theorem ls_eq (v : Nat) {e : Int} (h : lowE ≤ e) : lsI v e = true ↔ lsA KK (am v e) := by
 unfold lsI lsA
 by_cases z : v = 0
 ·subst z
  rw [if_pos rfl, am_zero, cdA_zero, Nat.zero_mod]
  refine ⟨fun c => (by cases c), fun c => ?_⟩
  rcases c with c | c
  ·exact absurd c (by decide)
  exact absurd rfl c
 rw [if_neg z]
 have cd := cd_eq z h
 have i := INn_eq
 by_cases c1 : 1024 < topI v e
 ·have := code_big z h c1
  rw [if_pos c1]; exact ⟨fun _ => .inl (by omega), fun _ => rfl⟩
 rw [if_neg c1]
 by_cases c2 : topI v e < -1074
 ·rw [if_pos c2]
  refine ⟨fun _ => .inr ?_, fun _ => rfl⟩
  have s := sh_eq z h
  have k := KK_eq
  rw [show expI v e = -1074 by unfold expI; omega, ← k, Int.toNat_natCast] at s
  have a := am_small z h c2
  have : 2 ^ (KK - 1) ≤ 2 ^ KK := Nat.pow_le_pow_right (by decide) (Nat.sub_le _ _)
  rw [s, Nat.mod_eq_of_lt (Nat.lt_of_lt_of_le a this)]
  exact am_pos z e
 rw [if_neg c2, Bool.or_eq_true, decide_eq_true_iff, lostI_am h (by unfold expI; unfold lowE; omega), decide_eq_true_iff, ← sh_eq z h]
 exact or_congr (by omega) Iff.rfl
theorem ty_eq (v : Nat) {e : Int} (h : lowE ≤ e) : tinyI v e = true ↔ v ≠ 0 ∧ tyA KK (am v e) := by
 unfold tinyI tyA
 by_cases z : v = 0
 ·subst z
  rw [if_pos rfl]
  exact ⟨fun c => (by cases c), fun c => absurd rfl c.1⟩
 rw [if_neg z]
 have k := KK_eq
 have k2 := KK_2
 have kk : (-1075 - lowE).toNat = KK - 1 := by unfold lowE at *; omega
 have b := am_bl z h
 by_cases c : topI v e = -1022
 ·rw [if_pos c, decide_eq_true_iff, rndI_am h (by decide), kk]
  exact ⟨fun d => ⟨z, d⟩, fun d => d.2⟩
 rw [if_neg c, decide_eq_true_iff]
 refine ⟨fun d => ⟨z, ?_⟩, fun d => ?_⟩
 ·refine Nat.lt_of_le_of_lt (rnd_le (m := 4503599627370496) (by omega) ?_) (by decide)
  rw [← P52, ← Nat.pow_add]
  refine Nat.le_of_lt (bl_le_iff.1 ?_)
  unfold topI at d; unfold lowE at *; omega
 refine Classical.byContradiction fun f => ?_
 have g : 9007199254740992 ≤ rnd (am v e) (KK - 1) := by
  refine rnd_ge ?_
  rw [← P53, ← Nat.pow_add]
  refine Nat.not_lt.1 fun x => ?_
  rw [← bl_le_iff] at x
  unfold topI at *; unfold lowE at *; omega
 omega
end Go.Proofs.YtnjfckadjklmfaaDoor.Nf

namespace Go.Proofs.YtnjfckadjklmfaaDoor.Nf
open Go.RowKit Go.Proofs.YtnjfckadjklmfaaDoor.PAll Go.Proofs.YtnjfckadjklmfaaDoorW.PrintWords Go.Proofs.YtnjfckadjklmfaaDoorW.PrintLast Go.Proofs.YtnjfckadjklmfaaDoorW.PrintMore Go.Proofs.YtnjfckadjklmfaaDoor.Nm
set_option linter.unusedVariables false
set_option linter.unusedSimpArgs false
open Classical in
noncomputable def flA (A : Nat) : Int := if lsA KK A then (if mbA KK A = INn then 20 else if A ≠ 0 ∧ tyA KK A then 24 else 16) else 0
def nbZ (Z : Int) : Int := ((mbA KK Z.natAbs : Nat) : Int) + sX (decide (Z < 0))
theorem mbA_le (K A : Nat) : mbA K A ≤ INn := Nat.min_le_left _ _
theorem vl_sg (s : Bool) (l : List Int) (e : Int) : vl s l e = sg s (am (val l) e) := by unfold vl; rw [Vz_am]
theorem sgn_vl (s : Bool) (l : List Int) (e : Int) : decide (vl s l e < 0) = (s && decide (val l ≠ 0)) := by
 rw [vl_sg]
 by_cases z : val l = 0
 ·rw [z, am_zero, sg_zero]; cases s <;> rfl
 rw [sg_neg_iff s (am_pos z e), decide_eq_true z, Bool.and_true]
theorem nbZ_vl (s : Bool) (l : List Int) (e : Int) : nbZ (vl s l e) = ((mbA KK (am (val l) e) : Nat) : Int) + sX (s && decide (val l ≠ 0)) := by
 unfold nbZ; rw [sgn_vl, vl_abs]
theorem ng_small {m : Nat} (h : m ≤ INn) : Nb.ng (m : Int) = (m : Int) + 9223372036854775808 := by
 unfold Nb.ng; exact if_pos (by unfold INn at h; omega)
theorem near_j0 (k : Nat) (s : Bool) (l : List Int) (e e' : Int) (v m : Nat) (fl : Int) (hm : m ≤ INn) : round_near.j0 (k + 1) s l e (ofN v) e' (m : Int) fl = some ((m : Int) + sX (s && decide (v ≠ 0)), fl) := by
 show (if s = true then _ else _) = _
 cases s with
 | false => rw [if_neg (by decide), Bool.false_and]; show _ = some ((m : Int) + 0, fl); rw [Int.add_zero]
 | true =>
  rw [if_pos rfl, zero_eq, bind_s, Bool.true_and]
  by_cases z : v = 0
  ·rw [if_pos (decide_eq_true z), decide_eq_false (not_not_intro z)]; show _ = some ((m : Int) + 0, fl); rw [Int.add_zero]
  rw [if_neg (by rw [decide_eq_true_iff]; exact z), Nb.neg_eq ⟨by omega, by unfold INn at hm; omega⟩, bind_s, ng_small hm, decide_eq_true z]; rfl
theorem of_eq (s : Bool) (l : List Int) (e : Int) (k : Nat) (w : Wl l) (h : fits (val l) e = true) (hk : 100000000000000000 ≤ k) : round_of.f k s l e = some (ofN (val l), e) := by
 have f := fits_iff.1 h
 have wl := w.2
 unfold round_of.f
 rw [Norm_eq l k w.1 w.2 (by omega), if_pos f.1, bind_s]
theorem low_le {e : Int} (h : -300000 ≤ e) : lowE ≤ e := by unfold lowE; omega
theorem mb_inf {v : Nat} {e : Int} (h : lowE ≤ e) : mbI v e = 9218868437227405312 ↔ mbA KK (am v e) = INn := by
 rw [mb_eq v h]; show _ = ((INn : Nat) : Int) ↔ _; omega
theorem near_eq (s : Bool) (l : List Int) (e : Int) (k : Nat) (w : Wl l) (h : fits (val l) e = true) (hk : 100000000000000000 ≤ k) : round_near.f k s l e = some (nbZ (vl s l e), flA (vl s l e).natAbs) := by
 have f := fits_iff.1 h
 obtain ⟨k, rfl⟩ : ∃ j, k = j + 1 := ⟨k - 1, by omega⟩
 unfold round_near.f
 rw [of_eq s l e (k + 1) w h hk, bind_s]
 show (round_amount_nearest.f (k + 1) (ofN (val l)) e).bind _ = _
 have le := low_le (e := e) (by omega)
 rw [nearest_eq (val l) e (k + 1) f.1 (by omega) (by omega) (by omega), bind_s]
 show (if lsI (val l) e = true then (if mbI (val l) e = 9218868437227405312 then round_near.j0 (k + 1) s l e (ofN (val l)) e (mbI (val l) e) 20 else _) else round_near.j0 (k + 1) s l e (ofN (val l)) e (mbI (val l) e) 0) = _
 rw [tiny_eq (val l) e (k + 1) f.1 (by omega) (by omega) (by omega), bind_s, nbZ_vl, vl_abs]
 have ls := ls_eq (val l) le
 have ty := ty_eq (val l) le
 have mi := mb_inf (v := val l) le
 have mb := mb_eq (val l) le
 have am0 : val l ≠ 0 ↔ am (val l) e ≠ 0 := ⟨fun z => am_pos z e, fun z c => z (by rw [c, am_zero])⟩
 have J := fun fl => near_j0 k s l e e (val l) (mbA KK (am (val l) e)) fl (mbA_le _ _)
 unfold flA
 by_cases c1 : lsA KK (am (val l) e)
 ·rw [if_pos (ls.2 c1), if_pos c1]
  by_cases c2 : mbA KK (am (val l) e) = INn
  ·rw [if_pos (mi.2 c2), if_pos c2, mb, J]
  rw [if_neg (fun c => c2 (mi.1 c)), if_neg c2, mb]
  by_cases c3 : am (val l) e ≠ 0 ∧ tyA KK (am (val l) e)
  ·rw [if_pos (ty.2 ⟨am0.2 c3.1, c3.2⟩), if_pos c3, show Go.bits .or .u8 16 8 = 24 by decide, J]
  rw [if_neg (fun c => c3 ⟨am0.1 (ty.1 c).1, (ty.1 c).2⟩), if_neg c3, J]
 rw [if_neg (fun c => c1 (ls.1 c)), if_neg c1, mb, J]
noncomputable def nearS (s : Bool) (l : List Int) (e : Int) : Int × Int × Int := if fits (val l) e = true then (nbZ (vl s l e), flA (vl s l e).natAbs, 0) else (0, 0, 2)
theorem Check_eq (s : Bool) (l : List Int) (e : Int) (k : Nat) (w : Wl l) (hk : 100000000000000000 ≤ k) : dyad_Check.f k s l e = some (if fits (val l) e = true then 0 else 2) := by
 unfold dyad_Check.f
 rw [right_eq s l e k w.1 w.2 hk, bind_s]
 by_cases h : fits (val l) e = true
 ·rw [h]; rfl
 rw [Bool.eq_false_iff.2 h]; rfl
theorem Near_eq (s : Bool) (l : List Int) (e : Int) (k : Nat) (w : Wl l) (hk : 100000000000000000 ≤ k) : round_Near.f k s l e = some (nearS s l e) := by
 unfold round_Near.f nearS
 rw [Check_eq s l e k w hk, bind_s]
 by_cases h : fits (val l) e = true
 ·rw [if_pos h, if_pos rfl, near_eq s l e k w h hk, bind_s, if_pos h]
 rw [if_neg h, if_neg (by decide), if_neg h]
end Go.Proofs.YtnjfckadjklmfaaDoor.Nf

namespace Go.Proofs.YtnjfckadjklmfaaDoor.Nf
open Go.RowKit Go.Proofs.YtnjfckadjklmfaaDoor.PAll Go.Proofs.YtnjfckadjklmfaaDoorW.PrintWords Go.Proofs.YtnjfckadjklmfaaDoorW.PrintLast Go.Proofs.YtnjfckadjklmfaaDoorW.PrintMore Go.Proofs.YtnjfckadjklmfaaDoor.Nm
set_option linter.unusedVariables false
set_option linter.unusedSimpArgs false
def okI (s0 : Bool) (l0 : List Int) (e0 : Int) (s1 : Bool) (l1 : List Int) (e1 : Int) : Prop := fits (val l0) e0 = true ∧ fits (val l1) e1 = true ∧ vl s0 l0 e0 ≤ vl s1 l1 e1
theorem cmpZ_gt (x y : Int) : cmpZ x y > 0 ↔ ¬ x ≤ y := by
 unfold cmpZ
 by_cases c : x < y
 ·rw [if_pos c]; omega
 rw [if_neg c]
 by_cases d : x = y
 ·rw [if_pos d]; omega
 rw [if_neg d]; omega
open Classical in
theorem fault_eq (s0 s1 : Bool) (l0 l1 : List Int) (e0 e1 : Int) (k : Nat) (w0 : Wl l0) (w1 : Wl l1) (hk : 200000000000000000 ≤ k) : round_fault.f k s0 l0 e0 s1 l1 e1 = some (if okI s0 l0 e0 s1 l1 e1 then 0 else 2) := by
 unfold round_fault.f okI
 rw [dCmp_eq s0 s1 l0 l1 e0 e1 k w0 w1 hk, bind_s]
 unfold cmpS
 by_cases h : fits (val l0) e0 = true ∧ fits (val l1) e1 = true
 ·rw [if_pos h, if_pos rfl]
  by_cases c : vl s0 l0 e0 ≤ vl s1 l1 e1
  ·rw [if_neg (fun d => (cmpZ_gt _ _).1 d c), if_pos ⟨h.1, h.2, c⟩]
  rw [if_pos ((cmpZ_gt _ _).2 c), if_neg (fun d => c d.2.2)]
 rw [if_neg h, if_neg (show ¬ (2 : Int) = 0 by decide), if_neg (fun d => h ⟨d.1, d.2.1⟩)]
theorem tz_ty (n : Nat) {e : Int} (h : lowE ≤ e) : (tinyI n e || decide (n = 0)) = true ↔ tyA KK (am n e) := by
 rw [Bool.or_eq_true, ty_eq n h, decide_eq_true_iff]
 by_cases z : n = 0
 ·subst z; rw [am_zero]; exact ⟨fun _ => tyA_zero _, fun _ => .inr rfl⟩
 exact ⟨fun c => c.elim (fun c => c.2) (fun c => absurd c z), fun c => .inl ⟨z, c⟩⟩
theorem am_nb (Z : Int) : Nb.am (nbZ Z) = ((mbA KK Z.natAbs : Nat) : Int) := by
 have := mbA_le KK Z.natAbs
 unfold INn at this
 unfold Nb.am nbZ sX
 split <;> omega
theorem nb_w (Z : Int) : Nb.W64 (nbZ Z) := by
 have := mbA_le KK Z.natAbs
 unfold INn at this
 unfold Nb.W64 nbZ sX
 split <;> omega
theorem am_inf (Z : Int) : Nb.am (nbZ Z) = 9218868437227405312 ↔ mbA KK Z.natAbs = INn := by
 rw [am_nb]; unfold INn; omega
open Classical in
noncomputable def decFl (Z : Int) : Int := if mbA KK Z.natAbs = INn then 20 else if tyA KK Z.natAbs then 24 else 16
def isDec (Z0 Z1 : Int) : Prop := nbZ Z0 = nbZ Z1 ∧ (tyA KK Z0.natAbs ↔ tyA KK Z1.natAbs)
open Classical in
noncomputable def decS (Z0 Z1 : Int) : Int × Int × Bool × Int := if isDec Z0 Z1 then (nbZ Z0, decFl Z0, true, 0) else (0, 0, false, 0)
theorem dec_j3 (k : Nat) (x : Bool) (Z : Int) (fl : Int) (hx : x = true ↔ tyA KK Z.natAbs) : round_Decide.j3 (k + 1) x (nbZ Z) fl = some (nbZ Z, decFl Z, true, 0) := by
 have u : round_Decide.j3 (k + 1) x (nbZ Z) fl = (bits_Abs.f (nbZ Z)).bind fun t551 => (if t551 = 9218868437227405312 then (some (nbZ Z, Go.bits .or .u8 16 4, true, 0)) else (if x = true then (some (nbZ Z, Go.bits .or .u8 16 8, true, 0)) else (some (nbZ Z, 16, true, 0)))) := by rw [round_Decide.j3]
 rw [u, Nb.abs_eq (nb_w Z), bind_s, show Go.bits .or .u8 16 8 = 24 by decide, show Go.bits .or .u8 16 4 = 20 by decide]
 unfold decFl
 by_cases c : mbA KK Z.natAbs = INn
 ·rw [if_pos ((am_inf Z).2 c), if_pos c]
 rw [if_neg (fun d => c ((am_inf Z).1 d)), if_neg c]
 by_cases d : tyA KK Z.natAbs
 ·rw [if_pos (hx.2 d), if_pos d]
 rw [if_neg (fun c => d (hx.1 c)), if_neg d]
theorem dec_j2 (k : Nat) (x y : Bool) (Z : Int) (fl : Int) (hx : x = true ↔ tyA KK Z.natAbs) : round_Decide.j2 (k + 2) x y (nbZ Z) fl = some (if y = true then (0, 0, false, 0) else (nbZ Z, decFl Z, true, 0)) := by
 have u : round_Decide.j2 (k + 2) x y (nbZ Z) fl = if y = true then (some (0, 0, false, 0)) else (round_Decide.j3 (k + 1) x (nbZ Z) fl) := by rw [round_Decide.j2]
 rw [u, dec_j3 k x Z fl hx]
 split <;> rfl
theorem dec_j1 (k : Nat) (x : Bool) (Z0 : Int) (f0 f1 : Int) (s1 : Bool) (l1 : List Int) (e1 : Int) (h : fits (val l1) e1 = true) (hx : x = true ↔ tyA KK Z0.natAbs) (hk : 100000000000000000 ≤ k) :
  round_Decide.j1 (k + 3) x (nbZ Z0) f0 (nbZ (vl s1 l1 e1)) f1 (ofN (val l1)) e1 = some (decS Z0 (vl s1 l1 e1)) := by
 have f := fits_iff.1 h
 have u : round_Decide.j1 (k + 3) x (nbZ Z0) f0 (nbZ (vl s1 l1 e1)) f1 (ofN (val l1)) e1 = if nbZ Z0 = nbZ (vl s1 l1 e1) then ((round_amount_tiny.f (k + 2) (ofN (val l1)) e1).bind fun t548 => (if t548 = true then (round_Decide.j2 (k + 2) x (x != true) (nbZ Z0) f0) else ((round_amount_zero.f (ofN (val l1)) e1).bind fun t549 => (round_Decide.j2 (k + 2) x (x != t549) (nbZ Z0) f0)))) else (round_Decide.j2 (k + 2) x true (nbZ Z0) f0) := by rw [round_Decide.j1]
 have tt := tz_ty (val l1) (e := e1) (low_le (by omega))
 rw [u, tiny_eq (val l1) e1 (k + 2) f.1 (by omega) (by omega) (by omega), bind_s, zero_eq, bind_s, dec_j2 k x _ Z0 f0 hx, dec_j2 k x _ Z0 f0 hx, dec_j2 k x _ Z0 f0 hx]
 unfold decS isDec
 rw [vl_abs]
 by_cases c : nbZ Z0 = nbZ (vl s1 l1 e1)
 ·rw [if_pos c]
  have g : (if tinyI (val l1) e1 = true then some (if (x != true) = true then ((0 : Int), (0 : Int), false, (0 : Int)) else (nbZ Z0, decFl Z0, true, 0)) else some (if (x != decide (val l1 = 0)) = true then (0, 0, false, 0) else (nbZ Z0, decFl Z0, true, 0))) = some (if (x != (tinyI (val l1) e1 || decide (val l1 = 0))) = true then (0, 0, false, 0) else (nbZ Z0, decFl Z0, true, 0)) := by
   cases tinyI (val l1) e1
   ·rw [if_neg (by decide), Bool.false_or]
   rw [if_pos rfl, Bool.true_or]
  rw [g]
  generalize (tinyI (val l1) e1 || decide (val l1 = 0)) = y at *
  by_cases d : x = y
  ·rw [if_neg (by rw [d]; simp), if_pos ⟨c, by rw [← hx, ← tt, d]⟩]
  rw [if_pos (by simpa using d), if_neg (fun h => d (Bool.eq_iff_iff.2 (hx.trans (h.2.trans tt.symm))))]
 rw [if_neg c, if_pos rfl, if_neg (fun h => c h.1)]
open Classical in
theorem Decide_eq (s0 s1 : Bool) (l0 l1 : List Int) (e0 e1 : Int) (k : Nat) (w0 : Wl l0) (w1 : Wl l1) (hk : 300000000000000000 ≤ k) : round_Decide.f k s0 l0 e0 s1 l1 e1 = some (if okI s0 l0 e0 s1 l1 e1 then decS (vl s0 l0 e0) (vl s1 l1 e1) else (0, 0, false, 2)) := by
 unfold round_Decide.f
 rw [fault_eq s0 s1 l0 l1 e0 e1 k w0 w1 (by omega), bind_s]
 by_cases c : okI s0 l0 e0 s1 l1 e1
 ·rw [if_pos c, if_pos c, if_pos rfl]
  obtain ⟨k, rfl⟩ : ∃ j, k = j + 4 := ⟨k - 4, by omega⟩
  have u : round_Decide.j0 (k + 4) s0 l0 e0 s1 l1 e1 = (round_near.f (k + 3) s0 l0 e0).bind fun bt530 => ((round_near.f (k + 3) s1 l1 e1).bind fun bt532 => ((round_of.f (k + 3) s0 l0 e0).bind fun bt536 => ((round_of.f (k + 3) s1 l1 e1).bind fun bt540 => ((round_amount_tiny.f (k + 3) bt536.1 bt536.2).bind fun t546 => (if t546 = true then (round_Decide.j1 (k + 3) true bt530.1 bt530.2 bt532.1 bt532.2 bt540.1 bt540.2) else ((round_amount_zero.f bt536.1 bt536.2).bind fun t547 => (round_Decide.j1 (k + 3) t547 bt530.1 bt530.2 bt532.1 bt532.2 bt540.1 bt540.2))))))) := by rw [round_Decide.j0]
  have f0 := fits_iff.1 c.1
  have tt := tz_ty (val l0) (e := e0) (low_le (by omega))
  rw [u, near_eq s0 l0 e0 (k + 3) w0 c.1 (by omega), bind_s, near_eq s1 l1 e1 (k + 3) w1 c.2.1 (by omega), bind_s, of_eq s0 l0 e0 (k + 3) w0 c.1 (by omega), bind_s, of_eq s1 l1 e1 (k + 3) w1 c.2.1 (by omega), bind_s]
  show (round_amount_tiny.f (k + 3) (ofN (val l0)) e0).bind _ = _
  rw [tiny_eq (val l0) e0 (k + 3) f0.1 (by omega) (by omega) (by omega), bind_s]
  have J := fun x hx => dec_j1 k x (vl s0 l0 e0) (flA (vl s0 l0 e0).natAbs) (flA (vl s1 l1 e1).natAbs) s1 l1 e1 c.2.1 hx (by omega)
  rw [vl_abs] at J
  by_cases d : tinyI (val l0) e0 = true
  ·rw [if_pos d]
   rw [vl_abs]
   exact J true ⟨fun _ => tt.1 (by rw [d, Bool.true_or]), fun _ => rfl⟩
  rw [if_neg d]
  show (round_amount_zero.f (ofN (val l0)) e0).bind _ = _
  rw [zero_eq, bind_s, vl_abs]
  refine J _ ?_
  rw [← tt, Bool.eq_false_iff.2 d, Bool.false_or]
 rw [if_neg c, if_neg c, if_neg (by decide)]
end Go.Proofs.YtnjfckadjklmfaaDoor.Nf

namespace Go.Proofs.YtnjfckadjklmfaaDoor.Nf
open Go.RowKit Go.Proofs.YtnjfckadjklmfaaDoor.PAll Go.Proofs.YtnjfckadjklmfaaDoorW.PrintWords Go.Proofs.YtnjfckadjklmfaaDoorW.PrintLast Go.Proofs.YtnjfckadjklmfaaDoorW.PrintMore Go.Proofs.YtnjfckadjklmfaaDoor.Nm
set_option linter.unusedVariables false
set_option linter.unusedSimpArgs false
theorem flA_I (v : Nat) {e : Int} (h : lowE ≤ e) : flA (am v e) = if lsI v e = true then (if mbI v e = INFc then 20 else if tinyI v e = true then 24 else 16) else 0 := by
 have ls := ls_eq v h
 have ty := ty_eq v h
 have mi : mbI v e = INFc ↔ mbA KK (am v e) = INn := mb_inf h
 have am0 : v ≠ 0 ↔ am v e ≠ 0 := ⟨fun z => am_pos z e, fun z c => z (by rw [c, am_zero])⟩
 unfold flA
 by_cases c1 : lsI v e = true
 ·rw [if_pos c1, if_pos (ls.1 c1)]
  by_cases c2 : mbI v e = INFc
  ·rw [if_pos c2, if_pos (mi.1 c2)]
  rw [if_neg c2, if_neg (fun c => c2 (mi.2 c))]
  by_cases c3 : tinyI v e = true
  ·rw [if_pos c3, if_pos ⟨am0.1 (ty.1 c3).1, (ty.1 c3).2⟩]
  rw [if_neg c3, if_neg (fun c => c3 (ty.2 ⟨am0.2 c.1, c.2⟩))]
 rw [if_neg c1, if_neg (fun c => c1 (ls.2 c))]
theorem wl_one {v : Int} (h0 : 0 ≤ v) (h1 : v < 18446744073709551616) : Wl [v] := ⟨ws_one h0 h1, len_one v⟩
theorem near_small (v : Nat) (e : Int) (k : Nat) (hv : v < 18446744073709551616) (e0 : -32768 ≤ e) (e1 : e ≤ 32768) (hk : 100000000000000000 ≤ k) : round_Near.f k false [(v : Int)] e = some (mbI v e, (if lsI v e = true then (if mbI v e = INFc then 20 else if tinyI v e = true then 24 else 16) else 0), 0) := by
 have le := low_le (e := e) (by omega)
 have val1 : val [(v : Int)] = v := by rw [val_one, Int.toNat_natCast]
 rw [Near_eq false [(v : Int)] e k (wl_one (by omega) (by omega)) hk]
 unfold nearS
 rw [val1, if_pos (fits_iff.2 ⟨word_big hv, e0, e1⟩), nbZ_vl, vl_abs, val1, flA_I v le, mb_eq v le, Bool.false_and]
 show some (((mbA KK (am v e) : Nat) : Int) + 0, _, _) = _
 rw [Int.add_zero]
theorem bl_1 : bl 1 = 1 := bl_unique (m := 0) (by decide) (by decide)
theorem bl_3 : bl 3 = 2 := bl_unique (m := 1) (by decide) (by decide)
theorem bl_a : bl 1152921504606846977 = 61 := bl_unique (m := 60) (by decide) (by decide)
theorem bl_b : bl 36028797018963969 = 56 := bl_unique (m := 55) (by decide) (by decide)
theorem l1 (k : Nat) (hk : 100000000000000000 ≤ k) : round_Near.f k false [1] (-1075) = some (0, 24, 0) := by
 have := near_small 1 (-1075) k (by decide) (by decide) (by decide) hk
 refine this.trans ?_
 unfold lsI tinyI mbI codeI expI topI
 rw [bl_1]
 decide
theorem l2 (k : Nat) (hk : 100000000000000000 ≤ k) : round_Near.f k false [1] 1024 = some (9218868437227405312, 20, 0) := by
 have := near_small 1 1024 k (by decide) (by decide) (by decide) hk
 refine this.trans ?_
 unfold lsI tinyI mbI codeI expI topI
 rw [bl_1]
 decide
theorem l3 (k : Nat) (hk : 100000000000000000 ≤ k) : round_Near.f k false [3] (-1) = some (4609434218613702656, 0, 0) := by
 have := near_small 3 (-1) k (by decide) (by decide) (by decide) hk
 refine this.trans ?_
 unfold lsI tinyI mbI codeI expI topI
 rw [bl_3]
 decide
theorem mb_a : mbI 1152921504606846977 (-60) = 4607182418800017408 ∧ tinyI 1152921504606846977 (-60) = false := by
 unfold tinyI mbI codeI expI topI
 rw [bl_a]
 decide
theorem mb_b : mbI 36028797018963969 (-55) = 4607182418800017408 ∧ tinyI 36028797018963969 (-55) = false := by
 unfold tinyI mbI codeI expI topI
 rw [bl_b]
 decide
theorem am_ab : am 1152921504606846977 (-60) ≤ am 36028797018963969 (-55) := by
 rw [am_shl (v := 36028797018963969) (e := -55) (E := -60) (by decide) (by decide)]
 exact Nat.mul_le_mul_right _ (by decide)
theorem l4 (k : Nat) (hk : 300000000000000000 ≤ k) : round_Decide.f k false [1152921504606846977] (-60) false [36028797018963969] (-55) = some (4607182418800017408, 16, true, 0) := by
 have va : val [(1152921504606846977 : Int)] = 1152921504606846977 := val_one _
 have vb : val [(36028797018963969 : Int)] = 36028797018963969 := val_one _
 have la : lowE ≤ -60 := by decide
 have lb : lowE ≤ -55 := by decide
 rw [Decide_eq false false _ _ _ _ k (wl_one (by decide) (by decide)) (wl_one (by decide) (by decide)) hk]
 have za : vl false [1152921504606846977] (-60) = (am 1152921504606846977 (-60) : Nat) := by rw [vl_sg, va]; rfl
 have zb : vl false [36028797018963969] (-55) = (am 36028797018963969 (-55) : Nat) := by rw [vl_sg, vb]; rfl
 have na : nbZ (am 1152921504606846977 (-60) : Nat) = 4607182418800017408 := by
  rw [← za, nbZ_vl, va, ← mb_eq _ la, mb_a.1]; decide
 have nb : nbZ (am 36028797018963969 (-55) : Nat) = 4607182418800017408 := by
  rw [← zb, nbZ_vl, vb, ← mb_eq _ lb, mb_b.1]; decide
 have ta : ¬ tyA KK (am 1152921504606846977 (-60)) := fun c => by
  have := (ty_eq 1152921504606846977 la).2 ⟨by decide, c⟩
  rw [mb_a.2] at this; cases this
 have tb : ¬ tyA KK (am 36028797018963969 (-55)) := fun c => by
  have := (ty_eq 36028797018963969 lb).2 ⟨by decide, c⟩
  rw [mb_b.2] at this; cases this
 have ok : okI false [1152921504606846977] (-60) false [36028797018963969] (-55) := by
  refine ⟨?_, ?_, ?_⟩
  ·rw [va]; exact fits_iff.2 ⟨word_big (by decide), by decide, by decide⟩
  ·rw [vb]; exact fits_iff.2 ⟨word_big (by decide), by decide, by decide⟩
  rw [za, zb]; exact Int.ofNat_le.2 am_ab
 have ia : mbA KK (am 1152921504606846977 (-60)) ≠ INn := fun c => by
  have := mb_eq 1152921504606846977 la
  rw [mb_a.1, c] at this
  exact absurd this (by decide)
 rw [if_pos ok, za, zb]
 unfold decS isDec decFl
 rw [Int.natAbs_natCast, Int.natAbs_natCast, if_pos ⟨na.trans nb.symm, fun c => absurd c ta, fun c => absurd c tb⟩, na, if_neg ia, if_neg ta]
theorem lives_eq (k : Nat) (hk : 300000000000000000 ≤ k) : ulplaw05_lives.f k = some true := by
 unfold ulplaw05_lives.f
 show ((round_Near.f k false [1] (-1075)).bind _) = _
 rw [l1 k (by omega), bind_s]
 show ((round_Near.f k false [1] 1024).bind _) = _
 rw [l2 k (by omega), bind_s, l3 k (by omega), bind_s, l4 k hk, bind_s]
 rfl
end Go.Proofs.YtnjfckadjklmfaaDoor.Nf

namespace Go.Proofs.YtnjfckadjklmfaaDoor.Nf
open Go.RowKit Go.Proofs.YtnjfckadjklmfaaDoor.PAll Go.Proofs.YtnjfckadjklmfaaDoorW.PrintWords Go.Proofs.YtnjfckadjklmfaaDoorW.PrintLast Go.Proofs.YtnjfckadjklmfaaDoorW.PrintMore Go.Proofs.YtnjfckadjklmfaaDoor.Nm
set_option linter.unusedVariables false
set_option linter.unusedSimpArgs false
theorem nb_cases (Z : Int) : (Z < 0 ∧ nbZ Z = ((mbA KK Z.natAbs : Nat) : Int) + 9223372036854775808) ∨ (0 ≤ Z ∧ nbZ Z = ((mbA KK Z.natAbs : Nat) : Int)) := by
 unfold nbZ sX
 by_cases h : Z < 0
 ·rw [if_pos (decide_eq_true h)]; exact .inl ⟨h, rfl⟩
 rw [if_neg (by rw [decide_eq_true_iff]; exact h), Int.add_zero]; exact .inr ⟨by omega, rfl⟩
theorem K1 : 1 ≤ KK := by have := KK_2; omega
end Go.Proofs.YtnjfckadjklmfaaDoor.Nf

namespace Go.Proofs.YtnjfckadjklmfaaDoor.Nf
open Go.RowKit Go.Proofs.YtnjfckadjklmfaaDoor.PAll Go.Proofs.YtnjfckadjklmfaaDoorW.PrintWords Go.Proofs.YtnjfckadjklmfaaDoorW.PrintLast Go.Proofs.YtnjfckadjklmfaaDoorW.PrintMore Go.Proofs.YtnjfckadjklmfaaDoor.Nm
set_option linter.unusedVariables false
set_option linter.unusedSimpArgs false
theorem bl_mul_le {v n m : Nat} (h : bl v + n ≤ m) : bl (v * 2 ^ n) ≤ m := by
 rw [bl_le_iff]; exact pow_le_mul h
theorem up_num {x : Int} (hx : Nb.W64 x) (h : Nb.isFin x) : Nb.isNum (Nb.up x) ∧ Nb.W64 (Nb.up x) := by
 obtain ⟨a, b⟩ := hx
 unfold Nb.isFin at h
 have n : Nb.isNum x := by unfold Nb.isNum; omega
 refine ⟨?_, ?_⟩
 ·unfold Nb.up
  rw [if_pos n, if_neg (by omega)]
  unfold Nb.isNum
  split
  ·omega
  split <;> omega
 unfold Nb.up
 rw [if_pos n, if_neg (by omega)]
 unfold Nb.W64
 split
 ·omega
 split <;> omega
end Go.Proofs.YtnjfckadjklmfaaDoor.Nf

namespace Go.Proofs.YtnjfckadjklmfaaDoor.Nf
open Go.RowKit Go.Proofs.YtnjfckadjklmfaaDoor.PAll Go.Proofs.YtnjfckadjklmfaaDoorW.PrintWords Go.Proofs.YtnjfckadjklmfaaDoorW.PrintLast Go.Proofs.YtnjfckadjklmfaaDoorW.PrintMore Go.Proofs.YtnjfckadjklmfaaDoor.Nm
set_option linter.unusedVariables false
set_option linter.unusedSimpArgs false
def hC (c : Nat) : Nat := 2 ^ (KK + tC c - 1)
theorem hC_two (c : Nat) : 2 * hC c = 2 ^ (KK + tC c) := by
 have := K1
 unfold hC
 rw [Nat.mul_comm, ← Nat.pow_succ]
 congr 1; omega
theorem hC_pos (c : Nat) : 0 < hC c := Nat.pow_pos (by decide)
theorem below_mid {c D : Nat} (hc : c < INn) (h0 : 0 < D) (h : D < hC c) : mbA KK (amc KK c + hC c - D) = c := by
 have t := hC_two c
 have := (cdA_of (K := KK) (c := c) (r := hC c - D) (by omega) K1).1
 rw [show amc KK c + hC c - D = amc KK c + (hC c - D) by omega]
 unfold mbA
 rw [this, if_neg (by omega)]
 omega
theorem above_mid {c D : Nat} (hc : c < INn) (h0 : 0 < D) (h : D < hC c) : mbA KK (amc KK c + hC c + D) = c + 1 := by
 have t := hC_two c
 have := (cdA_of (K := KK) (c := c) (r := hC c + D) (by omega) K1).1
 rw [show amc KK c + hC c + D = amc KK c + (hC c + D) by omega]
 unfold mbA
 rw [this, if_pos (.inl (by omega))]
 omega
theorem at_mid {c : Nat} (hc : c < INn) : mbA KK (amc KK c + hC c) = c + c % 2 ∧ lsA KK (amc KK c + hC c) := by
 have t := hC_two c
 have p := hC_pos c
 obtain ⟨a, b⟩ := cdA_of (K := KK) (c := c) (r := hC c) (by omega) K1
 refine ⟨?_, .inr (by rw [b]; omega)⟩
 unfold mbA
 rw [a]
 by_cases d : c % 2 = 1
 ·rw [if_pos (.inr ⟨t, d⟩)]; omega
 rw [if_neg (by omega)]; omega
theorem mant_c {x : Int} (hx : Nb.W64 x) : (Nb.mant x).toNat = mC (x % 9223372036854775808).toNat ∧ (Nb.expo x - lowE).toNat = KK + tC (x % 9223372036854775808).toNat ∧ Nb.expo x = (tC (x % 9223372036854775808).toNat : Int) - 1074 := by
 obtain ⟨a1, a2, a3, a4, a5, a6⟩ := mant_parts hx
 have k := KK_eq
 unfold Nb.mant Nb.expo
 by_cases q : Nb.ex x = 0
 ·rw [if_pos q, if_pos q]
  have h1 : mC (x % 9223372036854775808).toNat = (Nb.fr x).toNat := by unfold mC; rw [if_pos (by omega)]; omega
  have h2 : tC (x % 9223372036854775808).toNat = 0 := by unfold tC; omega
  rw [h1, h2]
  refine ⟨rfl, ?_, ?_⟩ <;> unfold lowE at * <;> omega
 rw [if_neg q, if_neg q]
 have h1 : mC (x % 9223372036854775808).toNat = (Nb.fr x + 4503599627370496).toNat := by unfold mC; rw [if_neg (by omega)]; omega
 have h2 : tC (x % 9223372036854775808).toNat = (Nb.ex x - 1).toNat := by unfold tC; omega
 rw [h1, h2]
 refine ⟨rfl, ?_, ?_⟩ <;> unfold lowE at * <;> omega
noncomputable def midS (x : Int) : Bool × List Int × Int × Int :=
 if Nb.isFin x then (decide (Nb.pl x < 0), ofN (2 * mC ((if Nb.pl x < 0 then x - 1 else x) % 9223372036854775808).toNat + 1), (tC ((if Nb.pl x < 0 then x - 1 else x) % 9223372036854775808).toNat : Int) - 1075, 0) else (false, [], 0, 5)
theorem or52 {f : Int} (h0 : 0 ≤ f) (h1 : f < 4503599627370496) : Go.bits .or .u64 f 4503599627370496 = f + 4503599627370496 := Nb.or_one52 h0 h1
theorem mid_j0 (k : Nat) (y : Int) (s : Bool) (hy : Nb.W64 y) (fy : Nb.isFin y) (hk : 2 ≤ k) : round_Mid.j0 (k + 1) y s = some (s, ofN (2 * mC (y % 9223372036854775808).toNat + 1), (tC (y % 9223372036854775808).toNat : Int) - 1075, 0) := by
 obtain ⟨m1, m2, m3⟩ := mant_c hy
 obtain ⟨a1, a2, a3, a4, a5, a6⟩ := mant_parts hy
 have mb := Nb.mant_bd hy
 have eb := Nb.expo_bd hy fy
 have mt : (Nb.mant y : Int) = (mC (y % 9223372036854775808).toNat : Int) := by omega
 have u : round_Mid.j0 (k + 1) y s = (bits_Last.f y).bind fun bt1098 => ((bits_Split.f y).bind fun bt1100 => (if bt1100.2.1 > 0 then ((nat_Of.f k (IntKind.u64.wrap ((IntKind.u64.wrap (2 * (Go.bits .or .u64 bt1100.2.2 4503599627370496))) + 1))).bind fun t1104 => (some (s, t1104, wrap64 (bt1098.1 - 1), 0))) else ((nat_Of.f k (IntKind.u64.wrap ((IntKind.u64.wrap (2 * bt1100.2.2)) + 1))).bind fun t1107 => (some (s, t1107, wrap64 (bt1098.1 - 1), 0))))) := rfl
 have le : (Nb.last y).1 = Nb.expo y := by
  unfold Nb.last Nb.expo
  rw [if_pos fy]
  by_cases q : Nb.ex y = 0
  ·rw [if_pos q, if_pos q]; omega
  rw [if_neg q, if_neg q]
 rw [u, Nb.last_eq hy, bind_s, Nb.split_eq hy, bind_s]
 show (if Nb.ex y > 0 then (nat_Of.f k (IntKind.u64.wrap ((IntKind.u64.wrap (2 * (Go.bits .or .u64 (Nb.fr y) 4503599627370496))) + 1))).bind _ else (nat_Of.f k (IntKind.u64.wrap ((IntKind.u64.wrap (2 * (Nb.fr y))) + 1))).bind _) = _
 rw [or52 a3 a4, le, m3]
 generalize tC (y % 9223372036854775808).toNat = t at *
 generalize mC (y % 9223372036854775808).toNat = m at *
 have w : ∀ q : Int, q = (m : Int) → IntKind.u64.wrap ((IntKind.u64.wrap (2 * q)) + 1) = ((2 * m + 1 : Nat) : Int) := fun q e => by
  rw [e, Nb.wrapU (x := 2 * (m : Int)) (by omega) (by omega), Nb.wrapU (by omega) (by omega)]; omega
 have we : wrap64 ((t : Int) - 1074 - 1) = (t : Int) - 1075 := by unfold wrap64; omega
 unfold Nb.mant at mt
 by_cases q : Nb.ex y = 0
 ·rw [if_pos q] at mt
  rw [if_neg (by omega), w _ mt, nOf_eq _ k (by omega) (by omega), bind_s, we]
 rw [if_neg q] at mt
 rw [if_pos (by omega), w _ mt, nOf_eq _ k (by omega) (by omega), bind_s, we]
theorem Mid_eq (x : Int) (k : Nat) (hx : Nb.W64 x) (hk : 100 ≤ k) : round_Mid.f k x = some (midS x) := by
 obtain ⟨k, rfl⟩ : ∃ j, k = j + 1 := ⟨k - 1, by omega⟩
 unfold round_Mid.f midS
 rw [Nb.last_eq hx, bind_s]
 by_cases f : Nb.isFin x
 ·have l0 : (Nb.last x).2 = 0 := by unfold Nb.last; rw [if_pos f]
  have nx : Nb.isNum x := by unfold Nb.isNum; unfold Nb.isFin at f; omega
  have n0 : Nb.isNum 0 := by decide
  rw [if_pos l0, if_pos f, Nb.less_eq hx ⟨by decide, by decide⟩, bind_s]
  have p0 : Nb.pl 0 = 0 := by decide
  by_cases c : Nb.pl x < 0
  ·have up : Nb.up x = x - 1 := by
    unfold Nb.isFin at f
    unfold Nb.pl at c
    unfold Nb.up
    obtain ⟨a, b⟩ := hx
    rw [if_pos nx]
    split at c
    ·omega
    rw [if_neg (by omega), if_neg (by omega), if_neg (by omega)]
   have w := up_num hx f
   rw [up] at w
   have f2 : Nb.isFin (x - 1) := by
    unfold Nb.isFin at *
    unfold Nb.pl at c
    obtain ⟨a, b⟩ := hx
    split at c <;> omega
   have d : decide (Nb.isNum x ∧ Nb.isNum 0 ∧ Nb.pl x < Nb.pl 0) = true := decide_eq_true ⟨nx, n0, by rw [p0]; exact c⟩
   rw [d, if_pos rfl, Nb.up_eq (by omega) hx, bind_s, up, if_pos c, decide_eq_true c]
   exact mid_j0 k (x - 1) true w.2 f2 (by omega)
  have d : decide (Nb.isNum x ∧ Nb.isNum 0 ∧ Nb.pl x < Nb.pl 0) = false := decide_eq_false (fun h => c (by have := h.2.2; rw [p0] at this; exact this))
  rw [d, if_neg (by decide), if_neg c, decide_eq_false c]
  exact mid_j0 k x false hx f (by omega)
 have l0 : Nb.last x = (0, 5) := by unfold Nb.last; rw [if_neg f]
 rw [l0, if_neg (by decide), if_neg f]
theorem room_small {V e : Int} {n : Nat} (h : bl V.natAbs ≤ n) (hn : n ≤ 5000) (h0 : -5000 ≤ e) (h1 : e ≤ 5000) : fits (val (cz V e).2.1) (cz V e).2.2 = true ∧ Wl (cz V e).2.1 := by
 have b : V.natAbs < big := big_lt_iff.2 (by omega)
 have lb := len_big b
 refine ⟨?_, wl_cz e (by omega)⟩
 unfold cz
 by_cases z : V.natAbs = 0
 ·rw [z, cf_zero]; exact fits_iff.2 ⟨by rw [val_nil]; exact big_lt_iff.2 (by rw [bl_zero]; omega), by show (-32768 : Int) ≤ 0; decide, by show (0 : Int) ≤ 32768; decide⟩
 have t := tz_lt z
 rw [cf_ne z]
 refine fits_iff.2 ⟨?_, ?_, ?_⟩
 ·show val (ofN (od V.natAbs)) < big
  rw [val_ofN]; exact Nat.lt_of_le_of_lt (od_le _) b
 ·show -32768 ≤ e + (tz V.natAbs : Int); omega
 show e + (tz V.natAbs : Int) ≤ 32768; omega
end Go.Proofs.YtnjfckadjklmfaaDoor.Nf

namespace Go.Proofs.YtnjfckadjklmfaaDoor.Pure
open Go.RowKit Go.Proofs.YtnjfckadjklmfaaDoor.PAll Go.Proofs.YtnjfckadjklmfaaDoorW.PrintWords Go.Proofs.YtnjfckadjklmfaaDoorW.PrintLast Go.Proofs.YtnjfckadjklmfaaDoorW.PrintMore
set_option linter.unusedVariables false
set_option linter.unusedSimpArgs false
open Go.Proofs.YtnjfckadjklmfaaDoor.Nm Go.Proofs.YtnjfckadjklmfaaDoor.Nf
theorem nearS_ok (s : Bool) (l : List Int) (e : Int) (h : fits (val l) e = true) : nearS s l e = (nbZ (vl s l e), flA (vl s l e).natAbs, 0) := by
 unfold nearS; exact if_pos h
theorem fl_and {A : Nat} (c : lsA KK A) : ((Go.bits .and .u8 (flA A) 16) != 0) = true := by
 unfold flA
 rw [if_pos c]
 by_cases d : mbA KK A = INn
 ·rw [if_pos d]; decide
 rw [if_neg d]
 by_cases e : A ≠ 0 ∧ tyA KK A
 ·rw [if_pos e]; decide
 rw [if_neg e]; decide
theorem last_part (k : Nat) (x a b m fa fb fm : Int) (hx : Nb.W64 x) (ha : Nb.W64 a) (hb : b = Nb.up x) (h1 : a = x ∨ (Nb.cls x = 1 ∧ Nb.cls a = 1)) (h2 : m = a ∨ m = b) (h3 : Int.tmod m 2 = 0) (h4 : ((Go.bits .and .u8 fm 16) != 0) = true) (hk : 10 ≤ k) :
  ulplaw05_RoundPoints.j1 (k + 1) x false a fa b fb m fm = some true := by
 rw [ulplaw05_RoundPoints.j1, if_neg (by decide), Nb.up_eq (by omega) hx, bind_s, if_pos hb]
 have E : (if m = a then (if (Int.tmod m 2) = 0 then (some ((Go.bits .and .u8 fm 16) != 0)) else (some false)) else (if m = b then (if (Int.tmod m 2) = 0 then (some ((Go.bits .and .u8 fm 16) != 0)) else (some false)) else (some false))) = some true := by
  rw [if_pos h3, h4]
  by_cases c : m = a
  ·rw [if_pos c]
  rw [if_neg c, if_pos (h2.resolve_left c)]
 by_cases c : a = x
 ·rw [if_pos c]; exact E
 obtain ⟨c1, c2⟩ := h1.resolve_left c
 rw [if_neg c, Nb.class_eq (by omega) hx, bind_s, if_pos c1, Nb.class_eq (by omega) ha, bind_s, if_pos c2]; exact E
theorem mid_vl (s : Bool) (c : Nat) : vl s (ofN (2 * mC c + 1)) ((tC c : Int) - 1075) = sg s (amc KK c + hC c) := by
 have k := KK_eq
 have k2 := KK_2
 rw [vl_sg, val_ofN]
 congr 1
 unfold am amc
 rw [show ((tC c : Int) - 1075 - lowE).toNat = KK + tC c - 1 by unfold lowE at *; omega, ← hC_two]
 show (2 * mC c + 1) * hC c = _
 rw [Nat.add_mul, Nat.one_mul, Nat.mul_comm 2, Nat.mul_assoc]
theorem mid_un {n : Int} (n0 : 1100 ≤ n) (n1 : n ≤ 3000) (c : Nat) (hc : c < INn) : ∃ B : Nat, amc KK c + hC c = B * 2 ^ (-n - lowE).toNat ∧ bl B ≤ 4030 := by
 obtain ⟨p, q, r⟩ := c_parts c
 have k := KK_eq
 have k2 := KK_2
 have tb : tC c ≤ 2046 := by unfold tC; unfold INn at hc; omega
 refine ⟨(2 * mC c + 1) * 2 ^ (tC c + n.toNat - 1075), ?_, ?_⟩
 ·rw [Nat.mul_assoc, ← Nat.pow_add, show tC c + n.toNat - 1075 + (-n - lowE).toNat = KK + tC c - 1 by unfold lowE at *; omega]
  show _ = (2 * mC c + 1) * hC c
  unfold amc
  rw [← hC_two, Nat.add_mul, Nat.one_mul, Nat.mul_comm 2 (mC c), Nat.mul_assoc]
 refine bl_mul_le ?_
 have : bl (2 * mC c + 1) ≤ 54 := by rw [bl_le_iff, p54]; omega
 omega
theorem pw_pos (j : Nat) : 0 < 2 ^ j := Nat.pow_pos (by decide)
theorem pw_lt {n : Int} (n0 : 1100 ≤ n) (n1 : n ≤ 3000) (c : Nat) : 2 ^ (-n - lowE).toNat < hC c := by
 have k := KK_eq
 unfold hC
 exact Nat.pow_lt_pow_right (by decide) (by unfold lowE at *; omega)
theorem near_of {Z n : Int} {B : Int} (e : Z = B * 2 ^ (-n - lowE).toNat) (n0 : 1100 ≤ n) (n1 : n ≤ 3000) (h : bl B.natAbs ≤ 4031) (k : Nat) (hk : 100000000000000000 ≤ k) :
  roomS (cz Z lowE) = ((cz Z lowE).1, (cz Z lowE).2.1, (cz Z lowE).2.2, 0) ∧ round_Near.f k (cz Z lowE).1 (cz Z lowE).2.1 (cz Z lowE).2.2 = some (nbZ Z, flA Z.natAbs, 0) := by
 have z : cz Z lowE = cz B (-n) := by
  rw [e, cz_shl]
  congr 1
  unfold lowE; omega
 obtain ⟨f, w⟩ := room_small (e := -n) h (by decide) (by omega) (by omega)
 rw [← z] at f w
 refine ⟨room_fits f, ?_⟩
 rw [Near_eq _ _ _ k w hk, nearS_ok _ _ _ f, vl_cz]
theorem bl_pm (s : Bool) {B n : Nat} (h : bl B ≤ n) : bl (sg s B - 1).natAbs ≤ n + 1 ∧ bl (sg s B + 1).natAbs ≤ n + 1 := by
 have a := sg_abs s B
 have p := Nat.pow_pos (n := n) (show 0 < 2 by decide)
 rw [bl_le_iff] at *
 rw [bl_le_iff, Nat.pow_succ]
 generalize 2 ^ n = P at *
 constructor <;> omega
theorem sg_int (s : Bool) (n j : Nat) : sg s (n * 2 ^ j) = sg s n * 2 ^ j := sg_shl s n j
theorem RoundPoints (x n : Int) (h1 : (Lit.int .u64 x).wf = true) (h2 : (Lit.int .i64 n).wf = true) : ∃ k, ulplaw05_RoundPoints.f k x n = some true := by
 have hx := Nb.w64_of h1
 have hn := i64_wf h2
 obtain ⟨k, hk⟩ : ∃ k, k = 400000000000000000 := ⟨_, rfl⟩
 have hk0 : 400000000000000000 ≤ k := by omega
 clear hk
 refine ⟨k + 5, ?_⟩
 unfold ulplaw05_RoundPoints.f
 rw [lives_eq (k + 5) (by omega), bind_s, if_pos rfl, Mid_eq x (k + 5) hx (by omega), bind_s]
 have jt : ∀ l s e, ulplaw05_RoundPoints.j0 (k + 5) x n true s l e = some true := fun l s e => by rw [ulplaw05_RoundPoints.j0]; exact if_pos rfl
 by_cases f : Nb.isFin x
 ·have hm : (midS x).2.2.2 = 0 := by unfold midS; rw [if_pos f]
  rw [if_pos hm]
  by_cases c1 : n < 1100
  ·rw [if_pos c1]; exact jt _ _ _
  rw [if_neg c1]
  by_cases c2 : n > 3000
  ·rw [decide_eq_true c2]; exact jt _ _ _
  rw [decide_eq_false c2]
  have n0 : 1100 ≤ n := by omega
  have n1 : n ≤ 3000 := by omega
  clear jt hm
  unfold midS
  rw [if_pos f]
  show ulplaw05_RoundPoints.j0 (k + 5) x n false (decide (Nb.pl x < 0)) (ofN (2 * mC ((if Nb.pl x < 0 then x - 1 else x) % 9223372036854775808).toNat + 1)) ((tC ((if Nb.pl x < 0 then x - 1 else x) % 9223372036854775808).toNat : Int) - 1075) = some true
  obtain ⟨c, hc⟩ : ∃ c, ((if Nb.pl x < 0 then x - 1 else x) % 9223372036854775808).toNat = c := ⟨_, rfl⟩
  rw [hc]
  obtain ⟨x0, x1⟩ := hx
  have plx : Nb.pl x < 0 ↔ 9223372036854775808 < x := by unfold Nb.pl; split <;> omega
  have cI : c < INn := by
   unfold Nb.isFin at f
   unfold INn
   split at hc <;> omega
  obtain ⟨p, q, r⟩ := c_parts c
  have tb : tC c ≤ 2046 := by unfold tC; unfold INn at cI; omega
  have lm : (ofN (2 * mC c + 1)).length ≤ 1 := len_word (by omega)
  have wm : Wl (ofN (2 * mC c + 1)) := wl_ofN (by omega)
  have fm : fits (val (ofN (2 * mC c + 1))) ((tC c : Int) - 1075) = true := by
   rw [val_ofN]; exact fits_iff.2 ⟨word_big (by omega), by omega, by omega⟩
  have w1 : Wl [(1 : Int)] := wl_one (by decide) (by decide)
  have v1 : val [(1 : Int)] = 1 := val_one 1
  have f1 : fits (val [(1 : Int)]) (-n) = true := by rw [v1]; exact fits_iff.2 ⟨word_big (by decide), by omega, by omega⟩
  have z1 : vl false [(1 : Int)] (-n) = ((2 ^ (-n - lowE).toNat : Nat) : Int) := by
   rw [vl_sg, v1]; unfold am; rw [Nat.one_mul]; rfl
  have wn : wrap64 (-n) = -n := by unfold wrap64; omega
  obtain ⟨B, eB, bB⟩ := mid_un n0 n1 c cI
  have lt := pw_lt n0 n1 c
  have pp := pw_pos (-n - lowE).toNat
  have S1 : ∀ s : Bool, bl (sg s B - 1).natAbs ≤ 4031 ∧ bl (sg s B + 1).natAbs ≤ 4031 := fun s => bl_pm s bB
  have Zb : ∀ s, sg s (amc KK c + hC c) - ((2 ^ (-n - lowE).toNat : Nat) : Int) = (sg s B - 1) * 2 ^ (-n - lowE).toNat := fun s => by
   rw [eB, sg_int, Int.sub_mul, Int.one_mul, pow_int]
  have Za : ∀ s, sg s (amc KK c + hC c) + ((2 ^ (-n - lowE).toNat : Nat) : Int) = (sg s B + 1) * 2 ^ (-n - lowE).toNat := fun s => by
   rw [eB, sg_int, Int.add_mul, Int.one_mul, pow_int]
  rw [ulplaw05_RoundPoints.j0, if_neg (by decide), wn]
  show (dyad_Sub.f (k + 4) _ _ _ false [1] (-n)).bind _ = _
  rw [dSub_eq _ false _ [1] _ (-n) (k + 4) wm w1 (by omega), bind_s]
  show (dyad_Add.f (k + 4) _ _ _ false [1] (-n)).bind _ = _
  rw [dAdd_eq _ false _ [1] _ (-n) (k + 4) wm w1 (by omega), bind_s, mid_vl, z1]
  unfold twoS
  rw [if_pos ⟨fm, f1⟩, if_pos ⟨fm, f1⟩]
  obtain ⟨rb, nb⟩ := near_of (Zb (decide (Nb.pl x < 0))) n0 n1 (S1 _).1 (k + 4) (by omega)
  obtain ⟨ra, na⟩ := near_of (Za (decide (Nb.pl x < 0))) n0 n1 (S1 _).2 (k + 4) (by omega)
  rw [rb, ra]
  dsimp only
  rw [nb, bind_s, na, bind_s, Near_eq _ _ _ (k + 4) wm (by omega), bind_s, nearS_ok _ _ _ fm, mid_vl]
  clear nb na rb ra Za Zb S1
  rw [if_pos rfl, if_pos rfl, if_pos rfl, if_pos rfl, show ((0 : Int) != 0) = false from rfl]
  have bm := below_mid cI pp lt
  have am_ := above_mid cI pp lt
  obtain ⟨mm, ml⟩ := at_mid cI
  have hp := hC_pos c
  generalize 2 ^ (-n - lowE).toNat = D at *
  generalize amc KK c = M at *
  generalize hC c = H at *
  refine last_part (k + 3) x _ _ _ _ _ _ ⟨x0, x1⟩ (nb_w _) ?_ ?_ ?_ ?_ (fl_and (by rw [sg_abs]; exact ml)) (by omega)
  all_goals
   by_cases g : Nb.pl x < 0
  all_goals first | rw [decide_eq_true g] | rw [decide_eq_false g]
  ·rw [if_pos g] at hc
   have e : (sg true (M + H) + (D : Int)).natAbs = M + H - D := by unfold sg; rw [if_pos rfl]; omega
   have nx : Nb.isNum x := by unfold Nb.isNum; unfold Nb.isFin at f; omega
   have up : Nb.up x = x - 1 := by
    unfold Nb.isFin at f
    unfold Nb.up
    rw [if_pos nx, if_neg (by omega), if_neg (by omega), if_neg (by omega)]
   rcases nb_cases (sg true (M + H) + (D : Int)) with ⟨i, j⟩ | ⟨i, j⟩
   ·rw [j, e, bm, up]; unfold Nb.isFin at f; omega
   exfalso; unfold sg at i; rw [if_pos rfl] at i; omega
  ·rw [if_neg g] at hc
   have e : (sg false (M + H) + (D : Int)).natAbs = M + H + D := by unfold sg; rw [if_neg (by decide)]; omega
   have nx : Nb.isNum x := by unfold Nb.isNum; unfold Nb.isFin at f; omega
   rcases nb_cases (sg false (M + H) + (D : Int)) with ⟨i, j⟩ | ⟨i, j⟩
   ·exfalso; unfold sg at i; rw [if_neg (by decide)] at i; omega
   rw [j, e, am_]
   unfold Nb.isFin at f
   unfold Nb.up
   rw [if_pos nx, if_neg (by omega)]
   split
   ·omega
   split <;> omega
  ·rw [if_pos g] at hc
   have e : (sg true (M + H) - (D : Int)).natAbs = M + H + D := by unfold sg; rw [if_pos rfl]; omega
   left
   rcases nb_cases (sg true (M + H) - (D : Int)) with ⟨i, j⟩ | ⟨i, j⟩
   ·rw [j, e, am_]; unfold Nb.isFin at f; omega
   exfalso; unfold sg at i; rw [if_pos rfl] at i; omega
  ·rw [if_neg g] at hc
   have e : (sg false (M + H) - (D : Int)).natAbs = M + H - D := by unfold sg; rw [if_neg (by decide)]; omega
   rcases nb_cases (sg false (M + H) - (D : Int)) with ⟨i, j⟩ | ⟨i, j⟩
   ·exfalso; unfold sg at i; rw [if_neg (by decide)] at i; omega
   rw [j, e, bm]
   by_cases v : x = 9223372036854775808
   ·right
    have c0 : c = 0 := by omega
    rw [v, c0]; exact ⟨by decide, show Nb.cls 0 = 1 by decide⟩
   left; omega
  ·have e1 : (sg true (M + H)).natAbs = M + H := sg_abs _ _
   have e2 : (sg true (M + H) - (D : Int)).natAbs = M + H + D := by unfold sg; rw [if_pos rfl]; omega
   have e3 : (sg true (M + H) + (D : Int)).natAbs = M + H - D := by unfold sg; rw [if_pos rfl]; omega
   have n1_ : sg true (M + H) < 0 := by unfold sg; rw [if_pos rfl]; omega
   rcases nb_cases (sg true (M + H)) with ⟨i, j⟩ | ⟨i, j⟩
   ·rcases nb_cases (sg true (M + H) - (D : Int)) with ⟨i2, j2⟩ | ⟨i2, j2⟩
    ·rcases nb_cases (sg true (M + H) + (D : Int)) with ⟨i3, j3⟩ | ⟨i3, j3⟩
     ·rw [j, j2, j3, e1, e2, e3, mm, am_, bm]; omega
     omega
    omega
   omega
  ·have e1 : (sg false (M + H)).natAbs = M + H := sg_abs _ _
   have e2 : (sg false (M + H) - (D : Int)).natAbs = M + H - D := by unfold sg; rw [if_neg (by decide)]; omega
   have e3 : (sg false (M + H) + (D : Int)).natAbs = M + H + D := by unfold sg; rw [if_neg (by decide)]; omega
   have s1 : sg false (M + H) = ((M + H : Nat) : Int) := rfl
   rcases nb_cases (sg false (M + H)) with ⟨i, j⟩ | ⟨i, j⟩
   ·omega
   rcases nb_cases (sg false (M + H) - (D : Int)) with ⟨i2, j2⟩ | ⟨i2, j2⟩
   ·omega
   rcases nb_cases (sg false (M + H) + (D : Int)) with ⟨i3, j3⟩ | ⟨i3, j3⟩
   ·omega
   rw [j, j2, j3, e1, e2, e3, mm, am_, bm]; omega
  ·have e1 : (sg true (M + H)).natAbs = M + H := sg_abs _ _
   rcases nb_cases (sg true (M + H)) with ⟨i, j⟩ | ⟨i, j⟩ <;> rw [j, e1, mm, Int.tmod_eq_emod_of_nonneg (by omega)] <;> omega
  have e1 : (sg false (M + H)).natAbs = M + H := sg_abs _ _
  rcases nb_cases (sg false (M + H)) with ⟨i, j⟩ | ⟨i, j⟩ <;> rw [j, e1, mm, Int.tmod_eq_emod_of_nonneg (by omega)] <;> omega
 have hm : midS x = (false, [], 0, 5) := by unfold midS; rw [if_neg f]
 rw [hm, if_neg (by decide), if_pos rfl, Nb.rfinite_eq hx, bind_s, decide_eq_false f]; rfl
end Go.Proofs.YtnjfckadjklmfaaDoor.Pure
