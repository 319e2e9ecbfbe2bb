/- Plain part. -/
import Derived.Test.YtjnfipkbgmdpaaaDoorXAlgMirrorN2
import Derived.Test.YtjnfipkbgmdpaaaDoorXAlgMirrorP6
import Derived.Test.YtjnfipkbgmdpaaaDoorXAlgMirrorP8
import Derived.Test.YtjnfipkbgmdpaaaDoorXAlgMirrorP5
import Derived.Test.YtjnfipkbgmdpaaaDoorXAlgMirrorP0
import Derived.Test.YtjnfipkbgmdpaaaDoorXAlgMirrorP9
import Derived.Test.YtjnfipkbgmdpaaaDoorXAlgMirrorP13
import Derived.Test.YtjnfipkbgmdpaaaDoorXAlgMirrorP14
import Derived.Test.YtjnfipkbgmdpaaaDoorXAlgMirrorP16
import Derived.Test.YtjnfipkbgmdpaaaDoorXAlgMirrorP15
namespace Go.Proofs.YtjnfipkbgmdpaaaDoor.Nf
open Go.RowKit Go.Proofs.YtjnfipkbgmdpaaaDoor.PAll Go.Proofs.YtjnfipkbgmdpaaaDoorW.PrintWords Go.Proofs.YtjnfipkbgmdpaaaDoorW.PrintLast Go.Proofs.YtjnfipkbgmdpaaaDoorW.PrintMore Go.Proofs.YtjnfipkbgmdpaaaDoor.Nm
set_option linter.unusedVariables false
set_option linter.unusedSimpArgs false
noncomputable def stS (s : Bool) (r : Nat) (e : Int) (more : Bool) : Int × Int := (nbZ (sg s (am (2 * r + if more = true then 1 else 0) (e - 1))), flA (am (2 * r + if more = true then 1 else 0) (e - 1)))
theorem shl_one {r : Nat} (h : bl r ≤ 60000) : (shlS r 1).1 = ofN (2 * r) := by
 unfold shlS
 rw [if_pos (big_lt_iff.2 (by omega)), if_neg (by decide)]
 by_cases z : r = 0
 ·rw [if_pos z, z, Nat.mul_zero, ofN_zero]
 rw [if_neg z, if_pos (by show bl r + 1 ≤ 65536; omega)]
 show ofN (r * 2) = _
 rw [Nat.mul_comm]
theorem bl_two {r n : Nat} (h : bl r ≤ n) : 2 * r + 1 < 2 ^ (n + 1) := by
 rw [bl_le_iff] at h
 rw [Nat.pow_succ]; omega
theorem bl_two' {r n : Nat} (h : bl r ≤ n) : bl (2 * r + 1) ≤ n + 1 := bl_le_iff.2 (bl_two h)
theorem near_st (s : Bool) (n : Nat) (e : Int) (k : Nat) (h : n < big) (e0 : -30000 ≤ e) (e1 : e ≤ 30000) (hk : 100000000000000000 ≤ k) : round_Near.f k s (ofN n) e = some (nbZ (sg s (am n e)), flA (am n e), 0) := by
 have len := len_big h
 rw [Near_eq s (ofN n) e k (wl_ofN (by omega)) hk]
 unfold nearS
 have f : fits (val (ofN n)) e = true := by rw [val_ofN]; exact fits_iff.2 ⟨h, by omega, by omega⟩
 rw [if_pos f, vl_sg, val_ofN, sg_abs]
theorem sticky_eq (s : Bool) (r : Nat) (e : Int) (more : Bool) (k : Nat) (h : bl r ≤ 60000) (e0 : -20000 ≤ e) (e1 : e ≤ 20000) (hk : 100000000000000000 ≤ k) : alg_sticky.f k s (ofN r) e more = some (stS s r e more) := by
 have hb : 2 * r + 1 < big := big_lt_iff.2 (Nat.le_trans (bl_two' h) (by decide))
 have hr : r < big := big_lt_iff.2 (by omega)
 have lr := len_big hr
 have l2 := len_big (show 2 * r < big by omega)
 have l1 : (ofN 1).length ≤ 1 := len_word (by omega)
 have w : wrap64 (e - 1) = e - 1 := by unfold wrap64; omega
 unfold alg_sticky.f stS
 rw [Shl_eq (ofN r) 1 k (ws_ofN r) (by omega) (by omega), val_ofN, bind_s, shl_one h, w]
 cases more with
 | false =>
  rw [if_neg (by decide), near_st s (2 * r) (e - 1) k (by omega) (by omega) (by omega) hk, bind_s, if_neg (by decide), Nat.add_zero]
 | true =>
  rw [if_pos rfl]
  show (nat_Of.f k ((1 : Nat) : Int)).bind _ = _
  rw [nOf_eq 1 k (by decide) (by omega), bind_s, Add_eq (ofN (2 * r)) (ofN 1) k (ws_ofN _) (ws_ofN _) (by omega) (by omega) (by omega), val_ofN, val_ofN, if_pos ⟨by omega, word_big (by decide)⟩, if_pos hb, bind_s]
  show (round_Near.f k s (ofN (2 * r + 1)) (e - 1)).bind _ = _
  rw [near_st s (2 * r + 1) (e - 1) k hb (by omega) (by omega) hk, bind_s, if_pos rfl]
def scI (e s0 kk : Int) : Int := s0 + (e - s0) % kk
def scS (v : Nat) (e s kk : Int) : List Int × Int × Bool := if 0 ≤ s then (ofN (v * 2 ^ s.toNat), (e - s) / kk, false) else (ofN (v / 2 ^ (-s).toNat), (e - s) / kk, decide (v % 2 ^ (-s).toNat ≠ 0))
theorem tdiv_of {a kk : Int} (hk : 0 < kk) (h : a % kk = 0) : Int.tdiv a kk = a / kk := by
 obtain ⟨c, rfl⟩ := Int.dvd_of_emod_eq_zero h
 rw [Int.mul_tdiv_cancel_left _ (by omega), Int.mul_ediv_cancel_left _ (by omega)]
theorem tmod_zero {a kk : Int} : Int.tmod a kk = 0 ↔ a % kk = 0 := by
 rw [← Int.dvd_iff_tmod_eq_zero, ← Int.dvd_iff_emod_eq_zero]
theorem scaled_loop (b : Bool) (l : List Int) (e kk : Int) (w : Wl l) (hv : val l < big) (v0 : val l ≠ 0) (hkk : kk = 2 ∨ kk = 3) (e0 : -20000 ≤ e) (e1 : e ≤ 20000) :
  ∀ (d k : Nat) (s : Int), ((e - s) % kk).toNat = d → -70000 ≤ s → (bl (val l) : Int) + s + d ≤ 1000 → 100000000000000 + d ≤ k → alg_scaled.l0 k kk s b l e = some (scS (val l) e (scI e s kk) kk) := by
 have wl := w.2
 have lb := big_lt_iff.1 hv
 intro d
 induction d with
 | zero =>
  intro k s hd s0 s1 hk
  obtain ⟨k, rfl⟩ : ∃ j, k = j + 1 := ⟨k - 1, by omega⟩
  have z : (e - s) % kk = 0 := by rcases hkk with rfl | rfl <;> omega
  have we : wrap64 (e - s) = e - s := by unfold wrap64; omega
  rw [alg_scaled.l0, we, if_neg (by omega), if_pos (tmod_zero.2 z), tdiv_of (by omega) z]
  have wd : wrap64 ((e - s) / kk) = (e - s) / kk := by unfold wrap64; rcases hkk with rfl | rfl <;> omega
  unfold scS scI
  rw [z, Int.add_zero, wd]
  by_cases c : 0 ≤ s
  ·rw [if_pos c, if_pos c, Shl_eq l s k w.1 wl (by omega), bind_s]
   unfold shlS
   rw [if_pos hv, if_neg (by omega), if_neg v0, if_pos (by omega)]
  have wn : wrap64 (-s) = (((-s).toNat : Nat) : Int) := by unfold wrap64; omega
  rw [if_neg c, if_neg c, wn, Shr_eq l _ k w.1 (by omega) wl (by omega), bind_s]
  unfold shrS
  rw [if_pos hv, if_neg (by omega), Int.toNat_natCast]
 | succ d ih =>
  intro k s hd s0 s1 hk
  obtain ⟨k, rfl⟩ : ∃ j, k = j + 1 := ⟨k - 1, by omega⟩
  have z : ¬ (e - s) % kk = 0 := by intro c; rw [c] at hd; cases hd
  have we : wrap64 (e - s) = e - s := by unfold wrap64; omega
  have ws : wrap64 (s + 1) = s + 1 := by unfold wrap64; omega
  have dd : ((e - (s + 1)) % kk).toNat = d ∧ scI e (s + 1) kk = scI e s kk ∧ (bl (val l) : Int) + (s + 1) + d ≤ 1000 := by
   unfold scI
   rcases hkk with rfl | rfl <;> omega
  rw [alg_scaled.l0, we, if_neg (by omega), if_neg (fun c => z (tmod_zero.1 c)), ws, ih k (s + 1) dd.1 (by omega) dd.2.2 (by omega), dd.2.1]
theorem scaled_eq (b : Bool) (l : List Int) (e kk bits : Int) (k : Nat) (w : Wl l) (hv : val l < big) (v0 : val l ≠ 0) (hkk : kk = 2 ∨ kk = 3) (e0 : -20000 ≤ e) (e1 : e ≤ 20000) (b0 : 0 ≤ bits) (b1 : bits ≤ 900) (hk : 100000000000000000 ≤ k) :
  alg_scaled.f k b l e kk bits = some (scS (val l) e (scI e (bits - (bl (val l) : Int)) kk) kk) := by
 have lb := big_lt_iff.1 hv
 have wl := w.2
 unfold alg_scaled.f
 rw [Len_eq l k w.1 wl (by omega), if_pos hv, bind_s]
 show alg_scaled.l0 k kk (wrap64 (bits - (bl (val l) : Int))) b l e = _
 rw [show wrap64 (bits - (bl (val l) : Int)) = bits - (bl (val l) : Int) by unfold wrap64; omega]
 exact scaled_loop b l e kk w hv v0 hkk e0 e1 _ k _ rfl (by omega) (by rcases hkk with rfl | rfl <;> omega) (by rcases hkk with rfl | rfl <;> omega)
end Go.Proofs.YtjnfipkbgmdpaaaDoor.Nf

namespace Go.Proofs.YtjnfipkbgmdpaaaDoor.Nf
open Go.RowKit Go.Proofs.YtjnfipkbgmdpaaaDoor.PAll Go.Proofs.YtjnfipkbgmdpaaaDoorW.PrintWords Go.Proofs.YtjnfipkbgmdpaaaDoorW.PrintLast Go.Proofs.YtjnfipkbgmdpaaaDoorW.PrintMore Go.Proofs.YtjnfipkbgmdpaaaDoor.Nm
set_option linter.unusedVariables false
set_option linter.unusedSimpArgs false
def scN (v : Nat) (s : Int) : Nat := if 0 ≤ s then v * 2 ^ s.toNat else v / 2 ^ (-s).toNat
def scL (v : Nat) (s : Int) : Bool := if 0 ≤ s then false else decide (v % 2 ^ (-s).toNat ≠ 0)
theorem scS_eq (v : Nat) (e s kk : Int) : scS v e s kk = (ofN (scN v s), (e - s) / kk, scL v s) := by
 unfold scS scN scL
 by_cases c : 0 ≤ s
 ·rw [if_pos c, if_pos c, if_pos c]
 rw [if_neg c, if_neg c, if_neg c]
theorem scN_bl {v : Nat} {s : Int} {m : Nat} (v0 : v ≠ 0) (h : (bl v : Int) + s ≤ m) : bl (scN v s) ≤ m := by
 unfold scN
 by_cases c : 0 ≤ s
 ·rw [if_pos c, bl_shl v0]; omega
 rw [if_neg c, bl_le_iff]
 exact pow_le_of (by omega)
theorem scI_le (e s0 : Int) {kk : Int} (hkk : kk = 2 ∨ kk = 3) : s0 ≤ scI e s0 kk ∧ scI e s0 kk ≤ s0 + 2 ∧ (e - scI e s0 kk) % kk = 0 := by
 unfold scI
 rcases hkk with rfl | rfl <;> omega
theorem len_pos_ofN (v : Nat) : decide (((ofN v).length : Int) > 0) = decide (v ≠ 0) := by
 have := @ofN_zero_iff v
 rw [Bool.eq_iff_iff, decide_eq_true_iff, decide_eq_true_iff]
 constructor
 ·intro h c; have := this.2 c; omega
 intro h
 have : (ofN v).length ≠ 0 := fun c => h (this.1 c)
 omega
def rtE (v : Nat) (e kk : Int) : Int := (e - scI e (kk * 64 - (bl v : Int)) kk) / kk
def rtN (v : Nat) (e kk : Int) : Nat := scN v (scI e (kk * 64 - (bl v : Int)) kk)
def rtL (v : Nat) (e kk : Int) : Bool := scL v (scI e (kk * 64 - (bl v : Int)) kk)
theorem rtE_bd {v : Nat} {e kk : Int} (hkk : kk = 2 ∨ kk = 3) (hb : bl v ≤ 9000) (e0 : -9000 ≤ e) (e1 : e ≤ 9000) : -20000 ≤ rtE v e kk ∧ rtE v e kk ≤ 20000 := by
 have := scI_le e (kk * 64 - (bl v : Int)) hkk
 unfold rtE
 rcases hkk with rfl | rfl <;> omega
theorem fin_sticky (s : Bool) (r d : Nat) (e : Int) (lo : Bool) (k : Nat) (h : bl r ≤ 60000) (e0 : -20000 ≤ e) (e1 : e ≤ 20000) (hk : 100000000000000000 ≤ k) :
  (if lo = true then ((alg_sticky.f k s (ofN r) e true).bind fun bt => (some (bt.1, bt.2))) else ((alg_sticky.f k s (ofN r) e (decide (((ofN d).length : Int) > 0))).bind fun bt => (some (bt.1, bt.2)))) = some (stS s r e (lo || decide (d ≠ 0))) := by
 rw [len_pos_ofN, sticky_eq s r e true k h e0 e1 hk, sticky_eq s r e _ k h e0 e1 hk, bind_s, bind_s]
 cases lo <;> rfl
theorem rooted3_eq (l : List Int) (e : Int) (k : Nat) (w : Wl l) (v0 : val l ≠ 0) (hb : bl (val l) ≤ 9000) (e0 : -9000 ≤ e) (e1 : e ≤ 9000) (hk : 2000000000000000000000 ≤ k) :
  ∃ r, IsR (fun r => r * r * r) (rtN (val l) e 3) r ∧ ∀ s, alg_rooted.f k s l e 3 13 = some (stS s r (rtE (val l) e 3) (rtL (val l) e 3 || decide (rtN (val l) e 3 - r * r * r ≠ 0))) := by
 have hv : val l < big := big_lt_iff.2 (by omega)
 have sb := scI_le e (3 * 64 - (bl (val l) : Int)) (.inr rfl)
 have nb : bl (rtN (val l) e 3) ≤ 194 := scN_bl v0 (by omega)
 have nl : rtN (val l) e 3 < big := big_lt_iff.2 (by omega)
 have len := len_big nl
 have pw : 2 ^ ((bl (rtN (val l) e 3) + 2) / 3) ≤ 2 ^ 65 := Nat.pow_le_pow_right (by decide) (by omega)
 have p65 : (2 : Nat) ^ 65 = 36893488147419103232 := by decide
 obtain ⟨r, hr, hi, hl⟩ := (Cbrt_eq (ofN (rtN (val l) e 3)) k (ws_ofN _) (by omega) (by rw [val_ofN]; omega)).1 (by rw [val_ofN]; exact nl)
 rw [val_ofN] at hr hi
 have br : bl r ≤ 60000 := Nat.le_trans (bl_len hl) (by decide)
 have eb := rtE_bd (v := val l) (e := e) (.inr rfl) hb e0 e1
 refine ⟨r, hi, fun s => ?_⟩
 unfold alg_rooted.f
 rw [show wrap64 (3 * 64) = 3 * 64 by unfold wrap64; omega, scaled_eq s l e 3 (3 * 64) k w hv v0 (.inr rfl) (by omega) (by omega) (by decide) (by decide) (by omega), scS_eq, bind_s, if_pos rfl]
 show ((nat_Cbrt.f k (ofN (rtN (val l) e 3))).bind _) = _
 rw [hr, bind_s]
 exact fin_sticky s r _ (rtE (val l) e 3) (rtL (val l) e 3) k br eb.1 eb.2 (by omega)
theorem rooted2_eq (l : List Int) (e : Int) (k : Nat) (w : Wl l) (v0 : val l ≠ 0) (hb : bl (val l) ≤ 9000) (e0 : -9000 ≤ e) (e1 : e ≤ 9000) (hk : 2000000000000000000000 ≤ k) :
  ∃ r, IsR (fun r => r * r) (rtN (val l) e 2) r ∧ ∀ s, alg_rooted.f k s l e 2 17 = some (stS s r (rtE (val l) e 2) (rtL (val l) e 2 || decide (rtN (val l) e 2 - r * r ≠ 0))) := by
 have hv : val l < big := big_lt_iff.2 (by omega)
 have sb := scI_le e (2 * 64 - (bl (val l) : Int)) (.inl rfl)
 have nb : bl (rtN (val l) e 2) ≤ 130 := scN_bl v0 (by omega)
 have nl : rtN (val l) e 2 < big := big_lt_iff.2 (by omega)
 have len := len_big nl
 have pw : 2 ^ ((bl (rtN (val l) e 2) + 1) / 2) ≤ 2 ^ 65 := Nat.pow_le_pow_right (by decide) (by omega)
 have p65 : (2 : Nat) ^ 65 = 36893488147419103232 := by decide
 obtain ⟨r, hr, hi⟩ := (Sqrt_eq (ofN (rtN (val l) e 2)) k (ws_ofN _) (by omega) (by rw [val_ofN]; omega)).1 (by rw [val_ofN]; exact nl)
 rw [val_ofN] at hr hi
 have r1 : r ≤ rtN (val l) e 2 := by
  have : r * r ≤ rtN (val l) e 2 := hi.1
  rcases Nat.eq_zero_or_pos r with z | z
  ·omega
  exact Nat.le_trans (Nat.le_mul_of_pos_left r z) this
 have br : bl r ≤ 60000 := Nat.le_trans (bl_mono r1) (by omega)
 have eb := rtE_bd (v := val l) (e := e) (.inl rfl) hb e0 e1
 refine ⟨r, hi, fun s => ?_⟩
 unfold alg_rooted.f
 rw [show wrap64 (2 * 64) = 2 * 64 by unfold wrap64; omega, scaled_eq s l e 2 (2 * 64) k w hv v0 (.inl rfl) (by omega) (by omega) (by decide) (by decide) (by omega), scS_eq, bind_s, if_neg (by decide)]
 show ((nat_Sqrt.f k (ofN (rtN (val l) e 2))).bind _) = _
 rw [hr, bind_s]
 exact fin_sticky s r _ (rtE (val l) e 2) (rtL (val l) e 2) k br eb.1 eb.2 (by omega)
end Go.Proofs.YtjnfipkbgmdpaaaDoor.Nf

namespace Go.Proofs.YtjnfipkbgmdpaaaDoor.Nf
open Go.RowKit Go.Proofs.YtjnfipkbgmdpaaaDoor.PAll Go.Proofs.YtjnfipkbgmdpaaaDoorW.PrintWords Go.Proofs.YtjnfipkbgmdpaaaDoorW.PrintLast Go.Proofs.YtjnfipkbgmdpaaaDoorW.PrintMore Go.Proofs.YtjnfipkbgmdpaaaDoor.Nm
set_option linter.unusedVariables false
set_option linter.unusedSimpArgs false
theorem finite_eq' (x : Int) (k : Nat) (hx : Nb.W64 x) (hk : 100000000000000000 ≤ k) : alg_finite.f k x = some (fromS x) := by
 unfold alg_finite.f
 rw [dFrom_eq x k hx hk, bind_s]
theorem scN_ne {v : Nat} {s : Int} (v0 : v ≠ 0) (h : 1 ≤ (bl v : Int) + s) : scN v s ≠ 0 := by
 unfold scN
 by_cases c : 0 ≤ s
 ·rw [if_pos c]; exact Nat.ne_of_gt (Nat.mul_pos (Nat.pos_of_ne_zero v0) (Nat.pow_pos (by decide)))
 rw [if_neg c]
 refine Nat.ne_of_gt (Nat.div_pos ?_ (Nat.pow_pos (by decide)))
 have := (bl_range v0).1
 exact Nat.le_trans (Nat.pow_le_pow_right (by decide) (by omega)) this
theorem rtN_ne {v : Nat} {e kk : Int} (v0 : v ≠ 0) (hkk : kk = 2 ∨ kk = 3) : rtN v e kk ≠ 0 := by
 have := scI_le e (kk * 64 - (bl v : Int)) hkk
 exact scN_ne v0 (by rcases hkk with rfl | rfl <;> omega)
theorem ng_fin {x : Int} (hx : Nb.W64 x) : Nb.W64 (Nb.ng x) ∧ (Nb.isFin (Nb.ng x) ↔ Nb.isFin x) ∧ Nb.ng x % 9223372036854775808 = x % 9223372036854775808 ∧ fneg (Nb.ng x) = !fneg x := by
 obtain ⟨a, b⟩ := hx
 unfold Nb.W64 Nb.isFin Nb.ng fneg
 by_cases c : x < 9223372036854775808
 ·rw [if_pos c, decide_eq_true (show 9223372036854775808 ≤ x + 9223372036854775808 by omega), decide_eq_false (show ¬ 9223372036854775808 ≤ x by omega)]
  exact ⟨by omega, by omega, by omega, rfl⟩
 rw [if_neg c, decide_eq_false (show ¬ 9223372036854775808 ≤ x - 9223372036854775808 by omega), decide_eq_true (show 9223372036854775808 ≤ x by omega)]
 exact ⟨by omega, by omega, by omega, rfl⟩
theorem from_form {x : Int} (hx : Nb.W64 x) (f : Nb.isFin x) (z : x % 9223372036854775808 ≠ 0) : fromS x = (fneg x, ofN (od (Nb.mant x).toNat), Nb.expo x + (tz (Nb.mant x).toNat : Int), 0) := by
 have m := Nb.mant_bd hx
 have mz : (Nb.mant x).toNat ≠ 0 := fun c => z ((mant_zero hx).1 (by omega))
 unfold fromS
 rw [if_pos f, cf_ne mz]
theorem Cbrt_fin {x : Int} (k : Nat) (hx : Nb.W64 x) (f : Nb.isFin x) (z : x % 9223372036854775808 ≠ 0) (hk : 2000000000000000000000 ≤ k) : ∃ r e more, 1 ≤ r ∧
  alg_Cbrt.f k x = some ((stS (fneg x) r e more).1, (stS (fneg x) r e more).2, 0) ∧ alg_Cbrt.f k (Nb.ng x) = some ((stS (!fneg x) r e more).1, (stS (!fneg x) r e more).2, 0) := by
 obtain ⟨n1, n2, n3, n4⟩ := ng_fin hx
 obtain ⟨m1, m2⟩ := amt_eq n1 hx n3
 have m := Nb.mant_bd hx
 have eb := Nb.expo_bd hx f
 have mz : (Nb.mant x).toNat ≠ 0 := fun c => z ((mant_zero hx).1 (by omega))
 have tl := tz_lt mz
 have bm : bl (Nb.mant x).toNat ≤ 53 := by rw [bl_le_iff, P53]; omega
 have bo : bl (od (Nb.mant x).toNat) ≤ 53 := Nat.le_trans (bl_mono (od_le _)) bm
 have lo : (ofN (od (Nb.mant x).toNat)).length ≤ 1 := len_word (Nat.lt_of_le_of_lt (od_le _) (by omega))
 have w : Wl (ofN (od (Nb.mant x).toNat)) := wl_ofN (by omega)
 obtain ⟨r, hi, hr⟩ := rooted3_eq (ofN (od (Nb.mant x).toNat)) (Nb.expo x + (tz (Nb.mant x).toNat : Int)) k w (by rw [val_ofN]; exact od_ne mz) (by rw [val_ofN]; omega) (by omega) (by omega) hk
 rw [val_ofN] at hi hr
 have r1 : 1 ≤ r := hi.2 1 (Nat.one_le_iff_ne_zero.2 (rtN_ne (od_ne mz) (.inr rfl)))
 have f1 := from_form hx f z
 have f2 := from_form n1 (n2.2 f) (by rw [n3]; exact z)
 rw [m1, m2, n4] at f2
 have az : ∀ y : Int, Nb.am y = y % 9223372036854775808 := fun y => rfl
 obtain ⟨e', more, hr⟩ : ∃ (e' : Int) (more : Bool), ∀ s, alg_rooted.f k s (ofN (od (Nb.mant x).toNat)) (Nb.expo x + (tz (Nb.mant x).toNat : Int)) 3 13 = some (stS s r e' more) := ⟨_, _, hr⟩
 refine ⟨r, e', more, r1, ?_, ?_⟩
 ·unfold alg_Cbrt.f
  rw [finite_eq' x k hx (by omega), bind_s, f1, if_pos rfl, Nb.abs_eq hx, bind_s, if_neg (by rw [az]; exact z), hr, bind_s]
 unfold alg_Cbrt.f
 rw [finite_eq' _ k n1 (by omega), bind_s, f2, if_pos rfl, Nb.abs_eq n1, bind_s, if_neg (by rw [az, n3]; exact z), hr, bind_s]
end Go.Proofs.YtjnfipkbgmdpaaaDoor.Nf

namespace Go.Proofs.YtjnfipkbgmdpaaaDoor.Nf
open Go.RowKit Go.Proofs.YtjnfipkbgmdpaaaDoor.PAll Go.Proofs.YtjnfipkbgmdpaaaDoorW.PrintWords Go.Proofs.YtjnfipkbgmdpaaaDoorW.PrintLast Go.Proofs.YtjnfipkbgmdpaaaDoorW.PrintMore Go.Proofs.YtjnfipkbgmdpaaaDoor.Nm
set_option linter.unusedVariables false
set_option linter.unusedSimpArgs false
theorem stS_neg {r : Nat} (h : 1 ≤ r) (s : Bool) (e : Int) (more : Bool) : (stS (!s) r e more).1 = Nb.ng (stS s r e more).1 ∧ (stS (!s) r e more).2 = (stS s r e more).2 ∧ Nb.W64 (stS s r e more).1 := by
 unfold stS
 have z : am (2 * r + if more = true then 1 else 0) (e - 1) ≠ 0 := am_pos (by omega) _
 refine ⟨?_, rfl, nb_w _⟩
 show nbZ (sg (!s) _) = Nb.ng (nbZ (sg s _))
 rw [sg_neg, ng_nb]
 intro c
 have := congrArg Int.natAbs c
 rw [sg_abs] at this
 exact z this
end Go.Proofs.YtjnfipkbgmdpaaaDoor.Nf

namespace Go.Proofs.YtjnfipkbgmdpaaaDoor.Nf
open Go.RowKit Go.Proofs.YtjnfipkbgmdpaaaDoor.PAll Go.Proofs.YtjnfipkbgmdpaaaDoorW.PrintWords Go.Proofs.YtjnfipkbgmdpaaaDoorW.PrintLast Go.Proofs.YtjnfipkbgmdpaaaDoorW.PrintMore Go.Proofs.YtjnfipkbgmdpaaaDoor.Nm
set_option linter.unusedVariables false
set_option linter.unusedSimpArgs false
def JJ : Nat := (-2148 - lowE).toNat
theorem JJ_eq : (JJ : Int) = -2148 - lowE := by unfold JJ lowE; omega
theorem bl_sum {a b n : Nat} (ha : bl a ≤ n) (hb : bl b ≤ n) : bl (a + b) ≤ n + 1 := by
 rw [bl_le_iff] at *
 rw [Nat.pow_succ]
 generalize 2 ^ n = P at *
 omega
noncomputable def sqV (x : Int) : Int := vmul (fromS x).1 (fromS x).2.1 (fromS x).2.2.1 (fromS x).1 (fromS x).2.1 (fromS x).2.2.1
theorem sg_sq (s : Bool) (n : Nat) : sg s n * sg s n = ((n * n : Nat) : Int) := by
 cases s
 ·show (n : Int) * (n : Int) = _; rw [Int.natCast_mul]
 show -(n : Int) * -(n : Int) = _; rw [Int.neg_mul_neg, Int.natCast_mul]
theorem from_bd {x : Int} (hx : Nb.W64 x) (f : Nb.isFin x) : (val (fromS x).2.1 ≠ 0 → (bl (val (fromS x).2.1) : Int) + (fromS x).2.2.1 ≤ 1024 ∧ -1074 ≤ (fromS x).2.2.1) := by
 have m := Nb.mant_bd hx
 have eb := Nb.expo_bd hx f
 by_cases z : (Nb.mant x).toNat = 0
 ·intro h
  exfalso
  unfold fromS at h
  rw [if_pos f, z, cf_zero] at h
  exact h val_nil
 intro _
 have bm : bl (Nb.mant x).toNat ≤ 53 := by rw [bl_le_iff, P53]; omega
 have bo := bl_od (Nb.mant x).toNat
 unfold fromS
 rw [if_pos f, cf_ne z]
 show (bl (val (ofN (od (Nb.mant x).toNat))) : Int) + (Nb.expo x + (tz (Nb.mant x).toNat : Int)) ≤ 1024 ∧ -1074 ≤ Nb.expo x + (tz (Nb.mant x).toNat : Int)
 rw [val_ofN]
 omega
theorem sq_form {x : Int} (hx : Nb.W64 x) (f : Nb.isFin x) : ∃ U : Nat, bl U ≤ 4200 ∧ sqV x = (U : Int) * 2 ^ JJ := by
 unfold sqV vmul
 rw [sg_sq]
 by_cases z : val (fromS x).2.1 = 0
 ·refine ⟨0, by rw [bl_zero]; omega, ?_⟩
  rw [z]
  show Vz 0 _ = 0 * _
  rw [Vz_zero, Int.zero_mul]
 obtain ⟨b1, b2⟩ := from_bd hx f z
 generalize val (fromS x).2.1 = n at *
 generalize (fromS x).2.2.1 = e at *
 have j := JJ_eq
 refine ⟨n * n * 2 ^ (e + e + 2148).toNat, ?_, ?_⟩
 ·refine bl_mul_le ?_
  have : bl (n * n) ≤ bl n + bl n := by
   rw [bl_le_iff, Nat.pow_add]
   exact Nat.mul_lt_mul'' (bl_lt n) (bl_lt n)
  omega
 unfold Vz
 have q : ((n * n * 2 ^ (e + e + 2148).toNat : Nat) : Int) = ((n * n : Nat) : Int) * 2 ^ (e + e + 2148).toNat := by rw [Int.natCast_mul, pow_int]
 rw [q, Int.mul_assoc, ← Int.pow_add, show (e + e - lowE).toNat = (e + e + 2148).toNat + JJ by unfold lowE at *; omega]
theorem cz_unit {Z : Int} {U : Int} (h : Z = U * 2 ^ JJ) : cz Z lowE = cz U (-2148) := by
 rw [h, cz_shl, show lowE + (JJ : Int) = -2148 by have := JJ_eq; omega]
theorem unit_room {Z U : Int} (h : Z = U * 2 ^ JJ) (hb : bl U.natAbs ≤ 4300) : fits (val (cz Z lowE).2.1) (cz Z lowE).2.2 = true ∧ Wl (cz Z lowE).2.1 ∧ roomS (cz Z lowE) = ((cz Z lowE).1, (cz Z lowE).2.1, (cz Z lowE).2.2, 0) := by
 obtain ⟨a, b⟩ := room_small (V := U) (e := -2148) hb (by decide) (by decide) (by decide)
 rw [← cz_unit h] at a b
 exact ⟨a, b, room_fits a⟩
theorem sq_mul {x : Int} (k : Nat) (hx : Nb.W64 x) (f : Nb.isFin x) (hk : 200000000000000000 ≤ k) : dyad_Mul.f k (fromS x).1 (fromS x).2.1 (fromS x).2.2.1 (fromS x).1 (fromS x).2.1 (fromS x).2.2.1 = some ((cz (sqV x) lowE).1, (cz (sqV x) lowE).2.1, (cz (sqV x) lowE).2.2, 0) := by
 obtain ⟨U, hb, hU⟩ := sq_form hx f
 have w := (from_rs hx f).wl
 have ff := from_fits hx f
 rw [dMul_eq _ _ _ _ _ _ k w w hk]
 unfold twoS
 rw [if_pos ⟨ff, ff⟩]
 exact congrArg some (unit_room hU (by rw [Int.natAbs_natCast]; omega)).2.2
noncomputable def hyC (k : Nat) (Z : Int) : Option (Int × Int × Int) := (dyad_Zero.f k (cz Z lowE).1 (cz Z lowE).2.1 (cz Z lowE).2.2).bind fun t => if t = true then some (0, 0, 0) else (alg_rooted.f k (cz Z lowE).1 (cz Z lowE).2.1 (cz Z lowE).2.2 2 17).bind fun b => some (b.1, b.2, 0)
theorem Hypot_fin {x y : Int} (k : Nat) (hx : Nb.W64 x) (hy : Nb.W64 y) (fx : Nb.isFin x) (fy : Nb.isFin y) (hk : 200000000000000000 ≤ k) : alg_Hypot.f (k + 1) x y = hyC k (sqV x + sqV y) := by
 obtain ⟨U, ub, hU⟩ := sq_form hx fx
 obtain ⟨V, vb, hV⟩ := sq_form hy fy
 have r1 := unit_room hU (by rw [Int.natAbs_natCast]; omega)
 have r2 := unit_room hV (by rw [Int.natAbs_natCast]; omega)
 have hs : sqV x + sqV y = ((U + V : Nat) : Int) * 2 ^ JJ := by rw [hU, hV, ← Int.add_mul, Int.natCast_add]
 have sb : bl (U + V) ≤ 4201 := bl_sum ub vb
 have r3 := unit_room hs (by rw [Int.natAbs_natCast]; omega)
 unfold alg_Hypot.f
 rw [finite_eq' x (k + 1) hx (by omega), bind_s, finite_eq' y (k + 1) hy (by omega), bind_s, if_pos (from_ok fx), from_ok fy]
 show alg_Hypot.j0 (k + 1) false _ _ _ _ _ _ = _
 rw [alg_Hypot.j0, if_neg (by decide), sq_mul k hx fx hk, bind_s, sq_mul k hy fy hk, bind_s]
 show (dyad_Add.f k (cz (sqV x) lowE).1 (cz (sqV x) lowE).2.1 (cz (sqV x) lowE).2.2 (cz (sqV y) lowE).1 (cz (sqV y) lowE).2.1 (cz (sqV y) lowE).2.2).bind _ = _
 rw [dAdd_eq _ _ _ _ _ _ k r1.2.1 r2.2.1 hk, vl_cz, vl_cz]
 unfold twoS
 rw [if_pos ⟨r1.1, r2.1⟩, r3.2.2, bind_s]
 rfl
end Go.Proofs.YtjnfipkbgmdpaaaDoor.Nf

namespace Go.Proofs.YtjnfipkbgmdpaaaDoor.Nf
open Go.RowKit Go.Proofs.YtjnfipkbgmdpaaaDoor.PAll Go.Proofs.YtjnfipkbgmdpaaaDoorW.PrintWords Go.Proofs.YtjnfipkbgmdpaaaDoorW.PrintLast Go.Proofs.YtjnfipkbgmdpaaaDoorW.PrintMore Go.Proofs.YtjnfipkbgmdpaaaDoor.Nm
set_option linter.unusedVariables false
set_option linter.unusedSimpArgs false
theorem dzero_eq (s : Bool) (l : List Int) (e : Int) (k : Nat) (w : Wl l) (hk : 100000000000000000 ≤ k) : dyad_Zero.f k s l e = some (if fits (val l) e = true then decide (val l = 0) else false) := by
 unfold dyad_Zero.f
 rw [right_eq s l e k w.ws w.len hk, bind_s, Zero_eq s l e k w.ws w.len hk, bind_s]
 split <;> rfl
theorem hyC_some {Z : Int} {U : Nat} (k : Nat) (h : Z = (U : Int) * 2 ^ JJ) (hb : bl U ≤ 4300) (hk : 2000000000000000000000 ≤ k) : ∃ a b, hyC k Z = some (a, b, 0) := by
 obtain ⟨r1, r2, r3⟩ := unit_room h (by rw [Int.natAbs_natCast]; exact hb)
 unfold hyC
 rw [dzero_eq _ _ _ k r2 (by omega), bind_s, if_pos r1]
 by_cases z : val (cz Z lowE).2.1 = 0
 ·rw [if_pos (decide_eq_true z)]; exact ⟨0, 0, rfl⟩
 rw [if_neg (by rw [decide_eq_true_iff]; exact z)]
 have e : cz Z lowE = cf false U (-2148) := by rw [cz_unit h, cf_cz]; rfl
 have z2 : U ≠ 0 := by
  intro c
  apply z
  rw [e, c, cf_zero]
  exact val_nil
 have t := tz_lt z2
 have v : val (cz Z lowE).2.1 = od U := by rw [e, val_cf]
 have ex : (cz Z lowE).2.2 = -2148 + (tz U : Int) := by rw [e, cf_ne z2]
 obtain ⟨r, _, hr⟩ := rooted2_eq (cz Z lowE).2.1 (cz Z lowE).2.2 k r2 z (by rw [v]; exact Nat.le_trans (bl_mono (od_le _)) (by omega)) (by rw [ex]; omega) (by rw [ex]; omega) hk
 rw [hr, bind_s]
 exact ⟨_, _, rfl⟩
theorem sqV_ng {x : Int} (hx : Nb.W64 x) (f : Nb.isFin x) : sqV (Nb.ng x) = sqV x := by
 obtain ⟨n1, n2, n3, n4⟩ := ng_fin hx
 obtain ⟨m1, m2⟩ := amt_eq n1 hx n3
 unfold sqV vmul
 rw [sg_sq, sg_sq]
 unfold fromS
 rw [if_pos f, if_pos (n2.2 f), m1, m2, n4]
 by_cases z : (Nb.mant x).toNat = 0
 ·rw [z, cf_zero, cf_zero]
 rw [cf_ne z, cf_ne z]
end Go.Proofs.YtjnfipkbgmdpaaaDoor.Nf

namespace Go.Proofs.YtjnfipkbgmdpaaaDoor.Nf
open Go.RowKit Go.Proofs.YtjnfipkbgmdpaaaDoor.PAll Go.Proofs.YtjnfipkbgmdpaaaDoorW.PrintWords Go.Proofs.YtjnfipkbgmdpaaaDoorW.PrintLast Go.Proofs.YtjnfipkbgmdpaaaDoorW.PrintMore Go.Proofs.YtjnfipkbgmdpaaaDoor.Nm
set_option linter.unusedVariables false
set_option linter.unusedSimpArgs false
theorem Cbrt_mirror {x : Int} (k : Nat) (hx : Nb.W64 x) (hk : 2000000000000000000000 ≤ k) : ∃ b f er b', alg_Cbrt.f k x = some (b, f, er) ∧ alg_Cbrt.f k (Nb.ng x) = some (b', f, er) ∧ (er = 0 → b' = Nb.ng b ∧ Nb.W64 b) := by
 obtain ⟨n1, n2, n3, n4⟩ := ng_fin hx
 by_cases f : Nb.isFin x
 ·by_cases z : x % 9223372036854775808 = 0
  ·refine ⟨x, 0, 0, Nb.ng x, ?_, ?_, fun _ => ⟨rfl, hx⟩⟩
   ·unfold alg_Cbrt.f
    rw [finite_eq' x k hx (by omega), bind_s, if_pos (from_ok f), Nb.abs_eq hx, bind_s, if_pos (show Nb.am x = 0 from z)]
   unfold alg_Cbrt.f
   rw [finite_eq' _ k n1 (by omega), bind_s, if_pos (from_ok (n2.2 f)), Nb.abs_eq n1, bind_s, if_pos (show Nb.am (Nb.ng x) = 0 from n3.trans z)]
  obtain ⟨r, e, more, r1, h1, h2⟩ := Cbrt_fin k hx f z hk
  obtain ⟨s1, s2, s3⟩ := stS_neg r1 (fneg x) e more
  exact ⟨_, _, 0, _, h1, by rw [h2, s2], fun _ => ⟨s1, s3⟩⟩
 refine ⟨0, 0, 5, 0, ?_, ?_, fun c => absurd c (by decide)⟩
 ·unfold alg_Cbrt.f
  rw [finite_eq' x k hx (by omega), bind_s, from_no f, if_neg (by decide)]
 unfold alg_Cbrt.f
 rw [finite_eq' _ k n1 (by omega), bind_s, from_no (fun c => f (n2.1 c)), if_neg (by decide)]
theorem Hypot_no {x y : Int} (k : Nat) (hx : Nb.W64 x) (hy : Nb.W64 y) (h : ¬ (Nb.isFin x ∧ Nb.isFin y)) (hk : 200000000000000000 ≤ k) : alg_Hypot.f (k + 1) x y = some (0, 0, 5) := by
 have jt : ∀ a b c d e f, alg_Hypot.j0 (k + 1) true a b c d e f = some (0, 0, 5) := fun a b c d e f => by rw [alg_Hypot.j0]; exact if_pos rfl
 unfold alg_Hypot.f
 rw [finite_eq' x (k + 1) hx (by omega), bind_s, finite_eq' y (k + 1) hy (by omega), bind_s]
 by_cases fx : Nb.isFin x
 ·rw [if_pos (from_ok fx), from_no (fun c => h ⟨fx, c⟩)]
  exact jt _ _ _ _ _ _
 rw [from_no fx, if_neg (by decide)]
 exact jt _ _ _ _ _ _
theorem Hypot_three {x y : Int} (k : Nat) (hx : Nb.W64 x) (hy : Nb.W64 y) (hk : 2000000000000000000000 ≤ k) : ∃ t, alg_Hypot.f (k + 1) x y = some t ∧ alg_Hypot.f (k + 1) y (Nb.ng x) = some t ∧ alg_Hypot.f (k + 1) (Nb.ng y) x = some t := by
 obtain ⟨n1, n2, n3, n4⟩ := ng_fin hx
 obtain ⟨m1, m2, m3, m4⟩ := ng_fin hy
 by_cases h : Nb.isFin x ∧ Nb.isFin y
 ·obtain ⟨fx, fy⟩ := h
  obtain ⟨U, ub, hU⟩ := sq_form hx fx
  obtain ⟨V, vb, hV⟩ := sq_form hy fy
  have hs : sqV x + sqV y = ((U + V : Nat) : Int) * 2 ^ JJ := by rw [hU, hV, ← Int.add_mul, Int.natCast_add]
  obtain ⟨a, b, e⟩ := hyC_some k hs (Nat.le_trans (bl_sum ub vb) (by decide)) hk
  refine ⟨(a, b, 0), ?_, ?_, ?_⟩
  ·rw [Hypot_fin k hx hy fx fy (by omega), e]
  ·rw [Hypot_fin k hy n1 fy (n2.2 fx) (by omega), sqV_ng hx fx, Int.add_comm, e]
  rw [Hypot_fin k m1 hx (m2.2 fy) fx (by omega), sqV_ng hy fy, Int.add_comm, e]
 exact ⟨(0, 0, 5), Hypot_no k hx hy h (by omega), Hypot_no k hy n1 (fun c => h ⟨n2.1 c.2, c.1⟩) (by omega), Hypot_no k m1 hx (fun c => h ⟨c.2, m2.1 c.1⟩) (by omega)⟩
theorem mirror_all {x y : Int} (k : Nat) (hx : Nb.W64 x) (hy : Nb.W64 y) (hk : 2000000000000000000000 ≤ k) (hl : ulplaw21_lives.f (k + 2) = some true) : ulplaw21_AlgMirror.f (k + 2) x y = some true := by
 have J : ulplaw21_AlgMirror.j0 (k + 2) x y false = some true := by
  obtain ⟨t, h1, h2, h3⟩ := Hypot_three k hx hy hk
  rw [ulplaw21_AlgMirror.j0, if_neg (by decide), h1, bind_s, Nb.neg_eq hx, bind_s, h2, bind_s, Nb.neg_eq hy, bind_s, h3, bind_s, if_pos rfl, if_pos rfl, if_pos (by simp)]
  simp
 obtain ⟨b, f, er, b', h1, h2, h3⟩ := Cbrt_mirror (k + 2) hx (by omega)
 unfold ulplaw21_AlgMirror.f
 rw [hl, bind_s, if_pos rfl, h1, bind_s, Nb.neg_eq hx, bind_s, h2, bind_s, if_pos rfl]
 by_cases c : er = 0
 ·obtain ⟨e1, e2⟩ := h3 c
  rw [if_pos c, Nb.neg_eq e2, bind_s, if_pos e1]
  show ulplaw21_AlgMirror.j0 (k + 2) x y (f != f) = _
  rw [show (f != f) = false by simp]
  exact J
 rw [if_neg c]; exact J
end Go.Proofs.YtjnfipkbgmdpaaaDoor.Nf

namespace Go.Proofs.YtjnfipkbgmdpaaaDoor.Nf
open Go.RowKit Go.Proofs.YtjnfipkbgmdpaaaDoor.PAll Go.Proofs.YtjnfipkbgmdpaaaDoorW.PrintWords Go.Proofs.YtjnfipkbgmdpaaaDoorW.PrintLast Go.Proofs.YtjnfipkbgmdpaaaDoorW.PrintMore Go.Proofs.YtjnfipkbgmdpaaaDoor.Nm
set_option linter.unusedVariables false
set_option linter.unusedSimpArgs false
def flI (v : Nat) (e : Int) : Int := if lsI v e = true then (if mbI v e = INFc then 20 else if tinyI v e = true then 24 else 16) else 0
theorem stS_val (r : Nat) (e : Int) (more : Bool) (n : Nat) (hn : 2 * r + (if more = true then 1 else 0) = n) (h : lowE ≤ e - 1) : stS false r e more = (mbI n (e - 1), flI n (e - 1)) := by
 unfold stS flI
 rw [hn, flA_I n h]
 have : nbZ (sg false (am n (e - 1))) = mbI n (e - 1) := by
  rw [mb_eq n h]
  rcases nb_cases (sg false (am n (e - 1))) with ⟨a, b⟩ | ⟨a, b⟩
  ·exact absurd a (by show ¬ ((am n (e - 1) : Nat) : Int) < 0; omega)
  rw [b, sg_abs]
 rw [this]
theorem root3_is {a r q : Nat} (hi : IsR (fun r => r * r * r) a r) (h1 : q * q * q ≤ a) (h2 : a < (q + 1) * (q + 1) * (q + 1)) : r = q := by
 refine Nat.le_antisymm (Nat.not_lt.1 fun c => ?_) (hi.2 q h1)
 have h3 : r * r * r ≤ a := hi.1
 have h4 := Nat.mul_le_mul (Nat.mul_le_mul (show q + 1 ≤ r from c) (show q + 1 ≤ r from c)) (show q + 1 ≤ r from c)
 omega
theorem root2_is {a r q : Nat} (hi : IsR (fun r => r * r) a r) (h1 : q * q ≤ a) (h2 : a < (q + 1) * (q + 1)) : r = q := by
 refine Nat.le_antisymm (Nat.not_lt.1 fun c => ?_) (hi.2 q h1)
 have h3 : r * r ≤ a := hi.1
 have h4 := Nat.mul_le_mul (show q + 1 ≤ r from c) (show q + 1 ≤ r from c)
 omega
theorem od_52 : od 4503599627370496 = 1 ∧ tz 4503599627370496 = 52 := ⟨od_eq (t := 52) (m := 0) (by decide), tz_eq (t := 52) (m := 0) (by decide)⟩
theorem bl_65 : bl 36893488147419103232 = 66 := bl_unique (m := 65) (by decide) (by decide)
theorem from_8 : fromS 4620693217682128896 = (false, ofN 1, 3, 0) := by
 rw [from_form ⟨by decide, by decide⟩ (by decide) (by decide)]
 have m : (Nb.mant 4620693217682128896).toNat = 4503599627370496 := by decide
 have e : Nb.expo 4620693217682128896 = -49 := by decide
 rw [m, e, od_52.1, od_52.2]; rfl
theorem cbrt_8 (k : Nat) (hk : 2000000000000000000000 ≤ k) : alg_Cbrt.f k 4620693217682128896 = some (4611686018427387904, 0, 0) := by
 have w1 : Wl (ofN 1) := wl_ofN (by have := len_word (v := 1) (by decide); omega)
 obtain ⟨r, hi, hr⟩ := rooted3_eq (ofN 1) 3 k w1 (by rw [val_ofN]; decide) (by rw [val_ofN, bl_1]; decide) (by decide) (by decide) hk
 rw [val_ofN] at hi hr
 have N : rtN 1 3 3 = 2 ^ 192 := by unfold rtN scI scN; rw [bl_1]; decide
 have E : rtE 1 3 3 = -63 := by unfold rtE scI; rw [bl_1]; decide
 have L : rtL 1 3 3 = false := by unfold rtL scI scL; rw [bl_1]; decide
 rw [N] at hi hr
 have r0 : r = 18446744073709551616 := root3_is hi (by decide) (by decide)
 rw [r0, E, L] at hr
 unfold alg_Cbrt.f
 rw [finite_eq' _ k ⟨by decide, by decide⟩ (by omega), bind_s, from_8, if_pos rfl, Nb.abs_eq ⟨by decide, by decide⟩, bind_s, if_neg (by decide), hr, bind_s, show (false || decide (2 ^ 192 - 18446744073709551616 * 18446744073709551616 * 18446744073709551616 ≠ 0)) = false by decide, stS_val _ _ _ 36893488147419103232 (by decide) (by decide)]
 unfold flI lsI mbI tinyI codeI expI topI
 rw [bl_65]
 decide
end Go.Proofs.YtjnfipkbgmdpaaaDoor.Nf

namespace Go.Proofs.YtjnfipkbgmdpaaaDoor.Nf
open Go.RowKit Go.Proofs.YtjnfipkbgmdpaaaDoor.PAll Go.Proofs.YtjnfipkbgmdpaaaDoorW.PrintWords Go.Proofs.YtjnfipkbgmdpaaaDoorW.PrintLast Go.Proofs.YtjnfipkbgmdpaaaDoorW.PrintMore Go.Proofs.YtjnfipkbgmdpaaaDoor.Nm
set_option linter.unusedVariables false
set_option linter.unusedSimpArgs false
theorem from_2 : fromS 4611686018427387904 = (false, ofN 1, 1, 0) := by
 rw [from_form ⟨by decide, by decide⟩ (by decide) (by decide)]
 have m : (Nb.mant 4611686018427387904).toNat = 4503599627370496 := by decide
 have e : Nb.expo 4611686018427387904 = -51 := by decide
 rw [m, e, od_52.1, od_52.2]; rfl
theorem bl_s2 : bl 26087635650665564425 = 65 := bl_unique (m := 64) (by decide) (by decide)
theorem sqrt_2 (k : Nat) (hk : 2000000000000000000000 ≤ k) : alg_Sqrt.f k 4611686018427387904 = some (4609047870845172685, 16, 0) := by
 have w1 : Wl (ofN 1) := wl_ofN (by have := len_word (v := 1) (by decide); omega)
 obtain ⟨r, hi, hr⟩ := rooted2_eq (ofN 1) 1 k w1 (by rw [val_ofN]; decide) (by rw [val_ofN, bl_1]; decide) (by decide) (by decide) hk
 rw [val_ofN] at hi hr
 have N : rtN 1 1 2 = 2 ^ 127 := by unfold rtN scI scN; rw [bl_1]; decide
 have E : rtE 1 1 2 = -63 := by unfold rtE scI; rw [bl_1]; decide
 have L : rtL 1 1 2 = false := by unfold rtL scI scL; rw [bl_1]; decide
 rw [N] at hi hr
 have r0 : r = 13043817825332782212 := root2_is hi (by decide) (by decide)
 rw [r0, E, L] at hr
 unfold alg_Sqrt.f
 rw [finite_eq' _ k ⟨by decide, by decide⟩ (by omega), bind_s, from_2, if_pos rfl, Nb.abs_eq ⟨by decide, by decide⟩, bind_s, if_neg (by decide), if_neg (by decide), hr, bind_s, show (false || decide (2 ^ 127 - 13043817825332782212 * 13043817825332782212 ≠ 0)) = true by decide, stS_val _ _ _ 26087635650665564425 (by decide) (by decide)]
 unfold flI lsI mbI tinyI codeI expI topI
 rw [bl_s2]
 decide
theorem from_3 : fromS 4613937818241073152 = (false, ofN 3, 0, 0) := by
 rw [from_form ⟨by decide, by decide⟩ (by decide) (by decide)]
 have m : (Nb.mant 4613937818241073152).toNat = 6755399441055744 := by decide
 have e : Nb.expo 4613937818241073152 = -51 := by decide
 have o : od 6755399441055744 = 3 := od_eq (t := 51) (m := 1) (by decide)
 have t : tz 6755399441055744 = 51 := tz_eq (t := 51) (m := 1) (by decide)
 rw [m, e, o, t]; rfl
theorem from_4 : fromS 4616189618054758400 = (false, ofN 1, 2, 0) := by
 rw [from_form ⟨by decide, by decide⟩ (by decide) (by decide)]
 have m : (Nb.mant 4616189618054758400).toNat = 4503599627370496 := by decide
 have e : Nb.expo 4616189618054758400 = -50 := by decide
 rw [m, e, od_52.1, od_52.2]; rfl
theorem bl_25 : bl 25 = 5 := bl_unique (m := 4) (by decide) (by decide)
theorem bl_h : bl 46116860184273879040 = 66 := bl_unique (m := 65) (by decide) (by decide)
theorem sq_34 : cz (sqV 4613937818241073152 + sqV 4616189618054758400) lowE = (false, ofN 25, 0) := by
 have h3 : sqV 4613937818241073152 = Vz 9 0 := by
  unfold sqV vmul
  rw [from_3, sg_sq]
  show Vz ((val (ofN 3) * val (ofN 3) : Nat) : Int) (0 + 0) = _
  rw [val_ofN]; rfl
 have h4 : sqV 4616189618054758400 = Vz 16 0 := by
  unfold sqV vmul
  rw [from_4, sg_sq]
  show Vz ((val (ofN 1) * val (ofN 1) : Nat) : Int) (2 + 2) = _
  rw [val_ofN]
  exact (Vz_shl (e := 0) (by decide) 1 4).symm
 rw [h3, h4, ← Vz_add, ← cz_Vz (by decide)]
 show cf false 25 0 = _
 have o : od 25 = 25 := od_eq (t := 0) (m := 12) (by decide)
 have t : tz 25 = 0 := tz_eq (t := 0) (m := 12) (by decide)
 rw [cf_ne (by decide), o, t]; rfl
theorem hypot_34 (k : Nat) (hk : 2000000000000000000000 ≤ k) : alg_Hypot.f (k + 1) 4613937818241073152 4616189618054758400 = some (4617315517961601024, 0, 0) := by
 have w1 : Wl (ofN 25) := wl_ofN (by have := len_word (v := 25) (by decide); omega)
 obtain ⟨r, hi, hr⟩ := rooted2_eq (ofN 25) 0 k w1 (by rw [val_ofN]; decide) (by rw [val_ofN, bl_25]; decide) (by decide) (by decide) hk
 rw [val_ofN] at hi hr
 have N : rtN 25 0 2 = 25 * 2 ^ 124 := by unfold rtN scI scN; rw [bl_25]; decide
 have E : rtE 25 0 2 = -62 := by unfold rtE scI; rw [bl_25]; decide
 have L : rtL 25 0 2 = false := by unfold rtL scI scL; rw [bl_25]; decide
 rw [N] at hi hr
 have r0 : r = 23058430092136939520 := root2_is hi (by decide) (by decide)
 rw [r0, E, L] at hr
 rw [Hypot_fin k ⟨by decide, by decide⟩ ⟨by decide, by decide⟩ (by decide) (by decide) (by omega)]
 unfold hyC
 rw [sq_34]
 show (dyad_Zero.f k false (ofN 25) 0).bind _ = _
 rw [dzero_eq false (ofN 25) 0 k w1 (by omega), bind_s, val_ofN, if_pos (fits_iff.2 ⟨word_big (by decide), by decide, by decide⟩), if_neg (by decide)]
 show (alg_rooted.f k false (ofN 25) 0 2 17).bind _ = _
 rw [hr, bind_s, show (false || decide (25 * 2 ^ 124 - 23058430092136939520 * 23058430092136939520 ≠ 0)) = false by decide, stS_val _ _ _ 46116860184273879040 (by decide) (by decide)]
 unfold flI lsI mbI tinyI codeI expI topI
 rw [bl_h]
 decide
end Go.Proofs.YtjnfipkbgmdpaaaDoor.Nf

namespace Go.Proofs.YtjnfipkbgmdpaaaDoor.Nf
open Go.RowKit Go.Proofs.YtjnfipkbgmdpaaaDoor.PAll Go.Proofs.YtjnfipkbgmdpaaaDoorW.PrintWords Go.Proofs.YtjnfipkbgmdpaaaDoorW.PrintLast Go.Proofs.YtjnfipkbgmdpaaaDoorW.PrintMore Go.Proofs.YtjnfipkbgmdpaaaDoor.Nm
set_option linter.unusedVariables false
set_option linter.unusedSimpArgs false
theorem from_1 : fromS 1 = (false, ofN 1, -1074, 0) := by
  rw [from_form ⟨by decide, by decide⟩ (by decide) (by decide)]
  have m : (Nb.mant 1).toNat = 1 := by decide
  have e : Nb.expo 1 = -1074 := by decide
  have o : od 1 = 1 := od_eq (t := 0) (m := 0) (by decide)
  have t : tz 1 = 0 := tz_eq (t := 0) (m := 0) (by decide)
  rw [m, e, o, t]; rfl
theorem bl_130 : bl (2 ^ 130) = 131 := bl_unique (m := 130) (by decide) (by decide)
theorem bl_66 : bl 73786976294838206464 = 67 := bl_unique (m := 66) (by decide) (by decide)
theorem rsqrt_1 (k : Nat) (hk : 2000000000000000000000 ≤ k) : alg_Rsqrt.f (k + 1) 1 = some (7025615418697973760, 0, 0) := by
  have l1 : (ofN 1).length ≤ 1 := len_word (v := 1) (by decide)
  have w1 : Wl (ofN 1) := wl_ofN (by omega)
  have b130 : 2 ^ 130 < big := big_lt_iff.2 (by rw [bl_130]; decide)
  have l130 := len_big b130
  have b1 : (1 : Nat) < big := word_big (by decide)
  unfold alg_Rsqrt.f
  rw [finite_eq' _ (k + 1) ⟨by decide, by decide⟩ (by omega), bind_s, from_1, if_pos rfl, Nb.abs_eq ⟨by decide, by decide⟩, bind_s, if_neg (by decide), if_neg (by decide)]
  show ((nat_Len.f (k + 1) (ofN 1)).bind _) = _
  rw [Len_eq (ofN 1) (k + 1) (ws_ofN _) (by omega) (by omega), val_ofN, if_pos b1, bind_s, bl_1]
  have e1 : wrap64 (128 + ((1 : Nat) : Int)) = 129 := by unfold wrap64; omega
  have e2 : wrap64 (-1074 + 129) = -945 := by unfold wrap64; omega
  have e3 : wrap64 (129 + 1) = ((130 : Nat) : Int) := by unfold wrap64; omega
  show (if Int.tmod (wrap64 (-1074 + wrap64 (128 + ((1 : Nat) : Int)))) 2 = 0 then _ else alg_Rsqrt.j0 (k + 1) (wrap64 (wrap64 (128 + ((1 : Nat) : Int)) + 1)) false (ofN 1) (-1074)) = _
  rw [e1, e2, e3, if_neg (by decide), alg_Rsqrt.j0]
  show (nat_Of.f k ((1 : Nat) : Int)).bind _ = _
  rw [nOf_eq 1 k (by decide) (by omega), bind_s, Shl_eq (ofN 1) _ k (ws_ofN _) (by omega) (by omega), val_ofN, bind_s]
  have s1 : (shlS 1 ((130 : Nat) : Int)).1 = ofN (2 ^ 130) := by
    unfold shlS
    rw [if_pos b1, if_neg (by decide), if_neg (by decide), Int.toNat_natCast, bl_1, if_pos (by decide), Nat.one_mul]
  rw [s1, Div_eq (ofN (2 ^ 130)) (ofN 1) k (ws_ofN _) (ws_ofN _) (by omega) (by omega) (by omega), val_ofN, val_ofN, bind_s]
  have q1 : quoS (2 ^ 130) 1 = (ofN (2 ^ 130), ofN 0, 0) := by
    unfold quoS
    rw [if_pos ⟨b130, b1⟩, if_neg (by decide), Nat.div_one, Nat.mod_one]
  rw [q1]
  obtain ⟨r, hr, hi⟩ := (Sqrt_eq (ofN (2 ^ 130)) k (ws_ofN _) (by omega) (by rw [val_ofN, bl_130]; have : (2 : Nat) ^ ((131 + 1) / 2) = 73786976294838206464 := by decide
                                                                             omega)).1 (by rw [val_ofN]; exact b130)
  rw [val_ofN] at hr hi
  have r0 : r = 36893488147419103232 := root2_is hi (by decide) (by decide)
  show ((nat_Sqrt.f k (ofN (2 ^ 130))).bind _) = _
  rw [hr, bind_s, ofN_zero, if_neg (by decide)]
  have d0 : (2 : Nat) ^ 130 - r * r = 0 := by rw [r0]
  have e4 : wrap64 (Int.tdiv (wrap64 (wrap64 (- -1074) - ((130 : Nat) : Int))) 2) = 472 := by
    have : wrap64 (- -1074) = 1074 := by unfold wrap64; omega
    rw [this, show wrap64 (1074 - ((130 : Nat) : Int)) = 944 by unfold wrap64; omega, show Int.tdiv 944 2 = 472 by decide]
    unfold wrap64; omega
  rw [d0, ofN_zero, e4, r0, sticky_eq false _ 472 _ k (by rw [bl_65]; decide) (by decide) (by decide) (by omega), bind_s, show decide ((([] : List Int).length : Int) > 0) = false by decide, stS_val _ _ _ 73786976294838206464 (by decide) (by decide)]
  unfold flI lsI mbI tinyI codeI expI topI
  rw [bl_66]
  decide
theorem lives_eq (k : Nat) (hk : 2000000000000000000000 ≤ k) : ulplaw21_lives.f (k + 1) = some true := by
  unfold ulplaw21_lives.f
  rw [cbrt_8 (k + 1) (by omega), bind_s, rsqrt_1 k hk, bind_s, hypot_34 k hk, bind_s, sqrt_2 (k + 1) (by omega), bind_s]
  rfl
end Go.Proofs.YtjnfipkbgmdpaaaDoor.Nf

namespace Go.Proofs.YtjnfipkbgmdpaaaDoor.Pure
open Go.RowKit Go.Proofs.YtjnfipkbgmdpaaaDoor.PAll Go.Proofs.YtjnfipkbgmdpaaaDoorW.PrintWords Go.Proofs.YtjnfipkbgmdpaaaDoorW.PrintLast Go.Proofs.YtjnfipkbgmdpaaaDoorW.PrintMore
set_option linter.unusedVariables false
set_option linter.unusedSimpArgs false
open Go.Proofs.YtjnfipkbgmdpaaaDoor.Nm Go.Proofs.YtjnfipkbgmdpaaaDoor.Nf
theorem AlgMirror (x y : Int) (h1 : (Lit.int .u64 x).wf = true) (h2 : (Lit.int .u64 y).wf = true) : ∃ k, ulplaw21_AlgMirror.f k x y = some true := by
 have hx := Nb.w64_of h1
 have hy := Nb.w64_of h2
 obtain ⟨k, hk⟩ : ∃ k, k = 2000000000000000000000 := ⟨_, rfl⟩
 have hk0 : 2000000000000000000000 ≤ k := by omega
 clear hk
 exact ⟨k + 2, mirror_all k hx hy hk0 (lives_eq (k + 1) (by omega))⟩
end Go.Proofs.YtjnfipkbgmdpaaaDoor.Pure
