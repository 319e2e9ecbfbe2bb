/- Plain part. -/
import Derived.Test.YtnjfckadjklmfaaDoorXRoundOnceN0
import Derived.Test.YtnjfckadjklmfaaDoorXRoundOnceN2
import Derived.Test.YtnjfckadjklmfaaDoorXRoundOnceP0
import Derived.Test.YtnjfckadjklmfaaDoorXRoundOnceP1
import Derived.Test.YtnjfckadjklmfaaDoorXRoundOnceP4
import Derived.Test.YtnjfckadjklmfaaDoorXRoundOnceP5
import Derived.Test.YtnjfckadjklmfaaDoorXRoundOnceP6
import Derived.Test.YtnjfckadjklmfaaDoorXRoundOnceP15
import Derived.Test.YtnjfckadjklmfaaDoorXRoundOnceP16
import Derived.Test.YtnjfckadjklmfaaDoorXRoundOnceP14
import Derived.Test.YtnjfckadjklmfaaDoorXRoundOnceP12
import Derived.Test.YtnjfckadjklmfaaDoorXRoundOnceP13
import Derived.Test.YtnjfckadjklmfaaDoorXRoundOnceP21
import Derived.Test.YtnjfckadjklmfaaDoorXRoundOnceP22
namespace Go.Proofs.YtnjfckadjklmfaaDoor.Nf
open Go.RowKit Go.Proofs.YtnjfckadjklmfaaDoor.PAll Go.Proofs.YtnjfckadjklmfaaDoorW.PrintWords Go.Proofs.YtnjfckadjklmfaaDoorW.PrintLast Go.Proofs.YtnjfckadjklmfaaDoorW.PrintMore Go.Proofs.YtnjfckadjklmfaaDoor.Nm
set_option linter.unusedVariables false
set_option linter.unusedSimpArgs false
def KK : Nat := (-1074 - lowE).toNat
theorem KK_eq : (KK : Int) = -1074 - lowE := by unfold KK lowE; omega
theorem KK_2 : 2 ≤ KK := by have := KK_eq; unfold lowE at this; omega
theorem rnd_scale (v j : Nat) {n : Nat} (hn : 1 ≤ n) : rnd (v * 2 ^ j) (n + j) = rnd v n := by
 have l := Nat.mod_lt v (two_pow_pos' n)
 have e := Nat.div_add_mod v (2 ^ n)
 have p := two_pow_pos' j
 have e2 : v * 2 ^ j = v / 2 ^ n * 2 ^ (n + j) + v % 2 ^ n * 2 ^ j := by
  rw [Nat.pow_add, ← Nat.mul_assoc, ← Nat.add_mul, Nat.mul_comm (v / 2 ^ n), e]
 have l2 : v % 2 ^ n * 2 ^ j < 2 ^ (n + j) := by
  rw [Nat.pow_add]; exact Nat.mul_lt_mul_of_pos_right l p
 rw [e2, rnd_of (by omega) l2, rnd_char v hn]
 congr 1
 have c1 : 2 ^ (n + j) < 2 * (v % 2 ^ n * 2 ^ j) ↔ 2 ^ n < 2 * (v % 2 ^ n) := by
  rw [Nat.pow_add, ← Nat.mul_assoc]; exact Nat.mul_lt_mul_right p
 have c2 : 2 * (v % 2 ^ n * 2 ^ j) = 2 ^ (n + j) ↔ 2 * (v % 2 ^ n) = 2 ^ n := by
  rw [Nat.pow_add, ← Nat.mul_assoc]; exact Nat.mul_right_cancel_iff p
 simp only [c1, c2]
theorem am_shl {v : Nat} {e E : Int} (h : lowE ≤ E) (h2 : E ≤ e) : am v e = v * 2 ^ (e - E).toNat * 2 ^ (E - lowE).toNat := by
 unfold am
 rw [Nat.mul_assoc, ← Nat.pow_add]
 congr 2; omega
theorem rndI_am {v : Nat} {e E : Int} (h : lowE ≤ e) (h2 : lowE < E) : rndI v e E = rnd (am v e) (E - lowE).toNat := by
 unfold rndI
 by_cases c : E ≤ e
 ·rw [if_pos c, am_shl (Int.le_of_lt h2) c, rnd_mul _ (by omega)]
 rw [if_neg c, show (E - lowE).toNat = (E - e).toNat + (e - lowE).toNat by omega]
 unfold am
 rw [rnd_scale _ _ (by omega)]
theorem lostI_am {v : Nat} {e E : Int} (h : lowE ≤ e) (h2 : lowE < E) : lostI v e E = decide (am v e % 2 ^ (E - lowE).toNat ≠ 0) := by
 unfold lostI
 by_cases c : E ≤ e
 ·rw [if_pos c, am_shl (Int.le_of_lt h2) c, Nat.mul_mod_left]; rfl
 rw [if_neg c, show (E - lowE).toNat = (E - e).toNat + (e - lowE).toNat by omega]
 unfold am
 rw [Nat.pow_add, Nat.mul_mod_mul_right, Bool.eq_iff_iff, decide_eq_true_iff, decide_eq_true_iff]
 have p := two_pow_pos' (e - lowE).toNat
 refine not_congr ⟨fun c => by rw [c, Nat.zero_mul], fun c => ?_⟩
 rcases Nat.mul_eq_zero.1 c with c | c
 ·exact c
 omega
theorem sh_eq {v : Nat} {e : Int} (z : v ≠ 0) (h : lowE ≤ e) : shA KK (am v e) = (expI v e - lowE).toNat := by
 have b := am_bl z h
 have k := KK_eq
 unfold shA expI topI
 unfold lowE at *
 omega
theorem am_small {v : Nat} {e : Int} (z : v ≠ 0) (h : lowE ≤ e) (c : topI v e < -1074) : am v e < 2 ^ (KK - 1) := by
 rw [← bl_le_iff]
 have b := am_bl z h
 have k := KK_eq
 unfold topI at c
 unfold lowE at *
 omega
theorem rnd_less {A n : Nat} (hn : 1 ≤ n) (h : A < 2 ^ (n - 1)) : rnd A n = 0 := by
 have e : 2 ^ n = 2 ^ (n - 1) * 2 := by rw [← Nat.pow_succ]; congr 1; omega
 have := rnd_of (m := 0) (n := n) (r := A) hn (by omega)
 rw [Nat.zero_mul, Nat.zero_add, Nat.zero_add] at this
 rw [this, if_neg (by omega)]
theorem am_zero (e : Int) : am 0 e = 0 := Nat.zero_mul _
theorem cd_eq {v : Nat} {e : Int} (z : v ≠ 0) (h : lowE ≤ e) : ((cdA KK (am v e) : Nat) : Int) = codeI v e := by
 have k := KK_eq
 have l : lowE < expI v e := by unfold expI; unfold lowE; omega
 unfold cdA codeI
 rw [sh_eq z h, rndI_am h l]
 generalize rnd (am v e) (expI v e - lowE).toNat = q
 have : (((expI v e - lowE).toNat - KK : Nat) : Int) = expI v e + 1074 := by
  have : -1074 ≤ expI v e := by unfold expI; omega
  unfold lowE at *; omega
 omega
theorem code_big {v : Nat} {e : Int} (z : v ≠ 0) (h : lowE ≤ e) (c : 1024 < topI v e) : INFc ≤ codeI v e := by
 have := rndI_ge (e := e) z
 unfold codeI INFc
 rw [show expI v e = topI v e - 53 by unfold expI; omega]
 omega
theorem code_none {v : Nat} {e : Int} (z : v ≠ 0) (h : lowE ≤ e) (c : topI v e < -1074) : codeI v e = 0 := by
 rw [← cd_eq z h]
 have s := sh_eq z h
 have k := KK_eq
 have : expI v e = -1074 := by unfold expI; omega
 rw [this, ← k, Int.toNat_natCast] at s
 unfold cdA
 rw [s, rnd_less (by have := KK_2; omega) (am_small z h c), Nat.sub_self]
 rfl
theorem INn_eq : ((INn : Nat) : Int) = INFc := rfl
theorem mb_eq (v : Nat) {e : Int} (h : lowE ≤ e) : mbI v e = ((mbA KK (am v e) : Nat) : Int) := by
 unfold mbI mbA
 by_cases z : v = 0
 ·subst z; rw [if_pos rfl, am_zero, cdA_zero]; rfl
 rw [if_neg z]
 have cd := cd_eq z h
 have i := INn_eq
 have c0 : (0 : Int) ≤ INFc := by decide
 by_cases c1 : 1024 < topI v e
 ·have := code_big z h c1
  rw [if_pos c1]; omega
 rw [if_neg c1]
 by_cases c2 : topI v e < -1074
 ·have := code_none z h c2
  rw [if_pos c2]; omega
 rw [if_neg c2]; omega
theorem ls_eq (v : Nat) {e : Int} (h : lowE ≤ e) : lsI v e = true ↔ lsA KK (am v e) := by
 unfold lsI lsA
 by_cases z : v = 0
 ·subst z
  rw [if_pos rfl, am_zero, cdA_zero, Nat.zero_mod]
  refine ⟨fun c => (by cases c), fun c => ?_⟩
  rcases c with c | c
  ·exact absurd c (by decide)
  exact absurd rfl c
 rw [if_neg z]
 have cd := cd_eq z h
 have i := INn_eq
 by_cases c1 : 1024 < topI v e
 ·have := code_big z h c1
  rw [if_pos c1]; exact ⟨fun _ => .inl (by omega), fun _ => rfl⟩
 rw [if_neg c1]
 by_cases c2 : topI v e < -1074
 ·rw [if_pos c2]
  refine ⟨fun _ => .inr ?_, fun _ => rfl⟩
  have s := sh_eq z h
  have k := KK_eq
  rw [show expI v e = -1074 by unfold expI; omega, ← k, Int.toNat_natCast] at s
  have a := am_small z h c2
  have : 2 ^ (KK - 1) ≤ 2 ^ KK := Nat.pow_le_pow_right (by decide) (Nat.sub_le _ _)
  rw [s, Nat.mod_eq_of_lt (Nat.lt_of_lt_of_le a this)]
  exact am_pos z e
 rw [if_neg c2, Bool.or_eq_true, decide_eq_true_iff, lostI_am h (by unfold expI; unfold lowE; omega), decide_eq_true_iff, ← sh_eq z h]
 exact or_congr (by omega) Iff.rfl
theorem ty_eq (v : Nat) {e : Int} (h : lowE ≤ e) : tinyI v e = true ↔ v ≠ 0 ∧ tyA KK (am v e) := by
 unfold tinyI tyA
 by_cases z : v = 0
 ·subst z
  rw [if_pos rfl]
  exact ⟨fun c => (by cases c), fun c => absurd rfl c.1⟩
 rw [if_neg z]
 have k := KK_eq
 have k2 := KK_2
 have kk : (-1075 - lowE).toNat = KK - 1 := by unfold lowE at *; omega
 have b := am_bl z h
 by_cases c : topI v e = -1022
 ·rw [if_pos c, decide_eq_true_iff, rndI_am h (by decide), kk]
  exact ⟨fun d => ⟨z, d⟩, fun d => d.2⟩
 rw [if_neg c, decide_eq_true_iff]
 refine ⟨fun d => ⟨z, ?_⟩, fun d => ?_⟩
 ·refine Nat.lt_of_le_of_lt (rnd_le (m := 4503599627370496) (by omega) ?_) (by decide)
  rw [← P52, ← Nat.pow_add]
  refine Nat.le_of_lt (bl_le_iff.1 ?_)
  unfold topI at d; unfold lowE at *; omega
 refine Classical.byContradiction fun f => ?_
 have g : 9007199254740992 ≤ rnd (am v e) (KK - 1) := by
  refine rnd_ge ?_
  rw [← P53, ← Nat.pow_add]
  refine Nat.not_lt.1 fun x => ?_
  rw [← bl_le_iff] at x
  unfold topI at *; unfold lowE at *; omega
 omega
end Go.Proofs.YtnjfckadjklmfaaDoor.Nf

namespace Go.Proofs.YtnjfckadjklmfaaDoor.Nf
open Go.RowKit Go.Proofs.YtnjfckadjklmfaaDoor.PAll Go.Proofs.YtnjfckadjklmfaaDoorW.PrintWords Go.Proofs.YtnjfckadjklmfaaDoorW.PrintLast Go.Proofs.YtnjfckadjklmfaaDoorW.PrintMore Go.Proofs.YtnjfckadjklmfaaDoor.Nm
set_option linter.unusedVariables false
set_option linter.unusedSimpArgs false
open Classical in
noncomputable def flA (A : Nat) : Int := if lsA KK A then (if mbA KK A = INn then 20 else if A ≠ 0 ∧ tyA KK A then 24 else 16) else 0
def nbZ (Z : Int) : Int := ((mbA KK Z.natAbs : Nat) : Int) + sX (decide (Z < 0))
theorem mbA_le (K A : Nat) : mbA K A ≤ INn := Nat.min_le_left _ _
theorem vl_sg (s : Bool) (l : List Int) (e : Int) : vl s l e = sg s (am (val l) e) := by unfold vl; rw [Vz_am]
theorem sgn_vl (s : Bool) (l : List Int) (e : Int) : decide (vl s l e < 0) = (s && decide (val l ≠ 0)) := by
 rw [vl_sg]
 by_cases z : val l = 0
 ·rw [z, am_zero, sg_zero]; cases s <;> rfl
 rw [sg_neg_iff s (am_pos z e), decide_eq_true z, Bool.and_true]
theorem nbZ_vl (s : Bool) (l : List Int) (e : Int) : nbZ (vl s l e) = ((mbA KK (am (val l) e) : Nat) : Int) + sX (s && decide (val l ≠ 0)) := by
 unfold nbZ; rw [sgn_vl, vl_abs]
theorem ng_small {m : Nat} (h : m ≤ INn) : Nb.ng (m : Int) = (m : Int) + 9223372036854775808 := by
 unfold Nb.ng; exact if_pos (by unfold INn at h; omega)
theorem near_j0 (k : Nat) (s : Bool) (l : List Int) (e e' : Int) (v m : Nat) (fl : Int) (hm : m ≤ INn) : round_near.j0 (k + 1) s l e (ofN v) e' (m : Int) fl = some ((m : Int) + sX (s && decide (v ≠ 0)), fl) := by
 show (if s = true then _ else _) = _
 cases s with
 | false => rw [if_neg (by decide), Bool.false_and]; show _ = some ((m : Int) + 0, fl); rw [Int.add_zero]
 | true =>
  rw [if_pos rfl, zero_eq, bind_s, Bool.true_and]
  by_cases z : v = 0
  ·rw [if_pos (decide_eq_true z), decide_eq_false (not_not_intro z)]; show _ = some ((m : Int) + 0, fl); rw [Int.add_zero]
  rw [if_neg (by rw [decide_eq_true_iff]; exact z), Nb.neg_eq ⟨by omega, by unfold INn at hm; omega⟩, bind_s, ng_small hm, decide_eq_true z]; rfl
theorem of_eq (s : Bool) (l : List Int) (e : Int) (k : Nat) (w : Wl l) (h : fits (val l) e = true) (hk : 100000000000000000 ≤ k) : round_of.f k s l e = some (ofN (val l), e) := by
 have f := fits_iff.1 h
 have wl := w.2
 unfold round_of.f
 rw [Norm_eq l k w.1 w.2 (by omega), if_pos f.1, bind_s]
theorem low_le {e : Int} (h : -300000 ≤ e) : lowE ≤ e := by unfold lowE; omega
theorem mb_inf {v : Nat} {e : Int} (h : lowE ≤ e) : mbI v e = 9218868437227405312 ↔ mbA KK (am v e) = INn := by
 rw [mb_eq v h]; show _ = ((INn : Nat) : Int) ↔ _; omega
theorem near_eq (s : Bool) (l : List Int) (e : Int) (k : Nat) (w : Wl l) (h : fits (val l) e = true) (hk : 100000000000000000 ≤ k) : round_near.f k s l e = some (nbZ (vl s l e), flA (vl s l e).natAbs) := by
 have f := fits_iff.1 h
 obtain ⟨k, rfl⟩ : ∃ j, k = j + 1 := ⟨k - 1, by omega⟩
 unfold round_near.f
 rw [of_eq s l e (k + 1) w h hk, bind_s]
 show (round_amount_nearest.f (k + 1) (ofN (val l)) e).bind _ = _
 have le := low_le (e := e) (by omega)
 rw [nearest_eq (val l) e (k + 1) f.1 (by omega) (by omega) (by omega), bind_s]
 show (if lsI (val l) e = true then (if mbI (val l) e = 9218868437227405312 then round_near.j0 (k + 1) s l e (ofN (val l)) e (mbI (val l) e) 20 else _) else round_near.j0 (k + 1) s l e (ofN (val l)) e (mbI (val l) e) 0) = _
 rw [tiny_eq (val l) e (k + 1) f.1 (by omega) (by omega) (by omega), bind_s, nbZ_vl, vl_abs]
 have ls := ls_eq (val l) le
 have ty := ty_eq (val l) le
 have mi := mb_inf (v := val l) le
 have mb := mb_eq (val l) le
 have am0 : val l ≠ 0 ↔ am (val l) e ≠ 0 := ⟨fun z => am_pos z e, fun z c => z (by rw [c, am_zero])⟩
 have J := fun fl => near_j0 k s l e e (val l) (mbA KK (am (val l) e)) fl (mbA_le _ _)
 unfold flA
 by_cases c1 : lsA KK (am (val l) e)
 ·rw [if_pos (ls.2 c1), if_pos c1]
  by_cases c2 : mbA KK (am (val l) e) = INn
  ·rw [if_pos (mi.2 c2), if_pos c2, mb, J]
  rw [if_neg (fun c => c2 (mi.1 c)), if_neg c2, mb]
  by_cases c3 : am (val l) e ≠ 0 ∧ tyA KK (am (val l) e)
  ·rw [if_pos (ty.2 ⟨am0.2 c3.1, c3.2⟩), if_pos c3, show Go.bits .or .u8 16 8 = 24 by decide, J]
  rw [if_neg (fun c => c3 ⟨am0.1 (ty.1 c).1, (ty.1 c).2⟩), if_neg c3, J]
 rw [if_neg (fun c => c1 (ls.1 c)), if_neg c1, mb, J]
noncomputable def nearS (s : Bool) (l : List Int) (e : Int) : Int × Int × Int := if fits (val l) e = true then (nbZ (vl s l e), flA (vl s l e).natAbs, 0) else (0, 0, 2)
theorem Check_eq (s : Bool) (l : List Int) (e : Int) (k : Nat) (w : Wl l) (hk : 100000000000000000 ≤ k) : dyad_Check.f k s l e = some (if fits (val l) e = true then 0 else 2) := by
 unfold dyad_Check.f
 rw [right_eq s l e k w.1 w.2 hk, bind_s]
 by_cases h : fits (val l) e = true
 ·rw [h]; rfl
 rw [Bool.eq_false_iff.2 h]; rfl
theorem Near_eq (s : Bool) (l : List Int) (e : Int) (k : Nat) (w : Wl l) (hk : 100000000000000000 ≤ k) : round_Near.f k s l e = some (nearS s l e) := by
 unfold round_Near.f nearS
 rw [Check_eq s l e k w hk, bind_s]
 by_cases h : fits (val l) e = true
 ·rw [if_pos h, if_pos rfl, near_eq s l e k w h hk, bind_s, if_pos h]
 rw [if_neg h, if_neg (by decide), if_neg h]
end Go.Proofs.YtnjfckadjklmfaaDoor.Nf

namespace Go.Proofs.YtnjfckadjklmfaaDoor.Nf
open Go.RowKit Go.Proofs.YtnjfckadjklmfaaDoor.PAll Go.Proofs.YtnjfckadjklmfaaDoorW.PrintWords Go.Proofs.YtnjfckadjklmfaaDoorW.PrintLast Go.Proofs.YtnjfckadjklmfaaDoorW.PrintMore Go.Proofs.YtnjfckadjklmfaaDoor.Nm
set_option linter.unusedVariables false
set_option linter.unusedSimpArgs false
def okI (s0 : Bool) (l0 : List Int) (e0 : Int) (s1 : Bool) (l1 : List Int) (e1 : Int) : Prop := fits (val l0) e0 = true ∧ fits (val l1) e1 = true ∧ vl s0 l0 e0 ≤ vl s1 l1 e1
theorem cmpZ_gt (x y : Int) : cmpZ x y > 0 ↔ ¬ x ≤ y := by
 unfold cmpZ
 by_cases c : x < y
 ·rw [if_pos c]; omega
 rw [if_neg c]
 by_cases d : x = y
 ·rw [if_pos d]; omega
 rw [if_neg d]; omega
open Classical in
theorem fault_eq (s0 s1 : Bool) (l0 l1 : List Int) (e0 e1 : Int) (k : Nat) (w0 : Wl l0) (w1 : Wl l1) (hk : 200000000000000000 ≤ k) : round_fault.f k s0 l0 e0 s1 l1 e1 = some (if okI s0 l0 e0 s1 l1 e1 then 0 else 2) := by
 unfold round_fault.f okI
 rw [dCmp_eq s0 s1 l0 l1 e0 e1 k w0 w1 hk, bind_s]
 unfold cmpS
 by_cases h : fits (val l0) e0 = true ∧ fits (val l1) e1 = true
 ·rw [if_pos h, if_pos rfl]
  by_cases c : vl s0 l0 e0 ≤ vl s1 l1 e1
  ·rw [if_neg (fun d => (cmpZ_gt _ _).1 d c), if_pos ⟨h.1, h.2, c⟩]
  rw [if_pos ((cmpZ_gt _ _).2 c), if_neg (fun d => c d.2.2)]
 rw [if_neg h, if_neg (show ¬ (2 : Int) = 0 by decide), if_neg (fun d => h ⟨d.1, d.2.1⟩)]
theorem tz_ty (n : Nat) {e : Int} (h : lowE ≤ e) : (tinyI n e || decide (n = 0)) = true ↔ tyA KK (am n e) := by
 rw [Bool.or_eq_true, ty_eq n h, decide_eq_true_iff]
 by_cases z : n = 0
 ·subst z; rw [am_zero]; exact ⟨fun _ => tyA_zero _, fun _ => .inr rfl⟩
 exact ⟨fun c => c.elim (fun c => c.2) (fun c => absurd c z), fun c => .inl ⟨z, c⟩⟩
theorem am_nb (Z : Int) : Nb.am (nbZ Z) = ((mbA KK Z.natAbs : Nat) : Int) := by
 have := mbA_le KK Z.natAbs
 unfold INn at this
 unfold Nb.am nbZ sX
 split <;> omega
theorem nb_w (Z : Int) : Nb.W64 (nbZ Z) := by
 have := mbA_le KK Z.natAbs
 unfold INn at this
 unfold Nb.W64 nbZ sX
 split <;> omega
theorem am_inf (Z : Int) : Nb.am (nbZ Z) = 9218868437227405312 ↔ mbA KK Z.natAbs = INn := by
 rw [am_nb]; unfold INn; omega
open Classical in
noncomputable def decFl (Z : Int) : Int := if mbA KK Z.natAbs = INn then 20 else if tyA KK Z.natAbs then 24 else 16
def isDec (Z0 Z1 : Int) : Prop := nbZ Z0 = nbZ Z1 ∧ (tyA KK Z0.natAbs ↔ tyA KK Z1.natAbs)
open Classical in
noncomputable def decS (Z0 Z1 : Int) : Int × Int × Bool × Int := if isDec Z0 Z1 then (nbZ Z0, decFl Z0, true, 0) else (0, 0, false, 0)
theorem dec_j3 (k : Nat) (x : Bool) (Z : Int) (fl : Int) (hx : x = true ↔ tyA KK Z.natAbs) : round_Decide.j3 (k + 1) x (nbZ Z) fl = some (nbZ Z, decFl Z, true, 0) := by
 have u : round_Decide.j3 (k + 1) x (nbZ Z) fl = (bits_Abs.f (nbZ Z)).bind fun t551 => (if t551 = 9218868437227405312 then (some (nbZ Z, Go.bits .or .u8 16 4, true, 0)) else (if x = true then (some (nbZ Z, Go.bits .or .u8 16 8, true, 0)) else (some (nbZ Z, 16, true, 0)))) := by rw [round_Decide.j3]
 rw [u, Nb.abs_eq (nb_w Z), bind_s, show Go.bits .or .u8 16 8 = 24 by decide, show Go.bits .or .u8 16 4 = 20 by decide]
 unfold decFl
 by_cases c : mbA KK Z.natAbs = INn
 ·rw [if_pos ((am_inf Z).2 c), if_pos c]
 rw [if_neg (fun d => c ((am_inf Z).1 d)), if_neg c]
 by_cases d : tyA KK Z.natAbs
 ·rw [if_pos (hx.2 d), if_pos d]
 rw [if_neg (fun c => d (hx.1 c)), if_neg d]
theorem dec_j2 (k : Nat) (x y : Bool) (Z : Int) (fl : Int) (hx : x = true ↔ tyA KK Z.natAbs) : round_Decide.j2 (k + 2) x y (nbZ Z) fl = some (if y = true then (0, 0, false, 0) else (nbZ Z, decFl Z, true, 0)) := by
 have u : round_Decide.j2 (k + 2) x y (nbZ Z) fl = if y = true then (some (0, 0, false, 0)) else (round_Decide.j3 (k + 1) x (nbZ Z) fl) := by rw [round_Decide.j2]
 rw [u, dec_j3 k x Z fl hx]
 split <;> rfl
theorem dec_j1 (k : Nat) (x : Bool) (Z0 : Int) (f0 f1 : Int) (s1 : Bool) (l1 : List Int) (e1 : Int) (h : fits (val l1) e1 = true) (hx : x = true ↔ tyA KK Z0.natAbs) (hk : 100000000000000000 ≤ k) :
  round_Decide.j1 (k + 3) x (nbZ Z0) f0 (nbZ (vl s1 l1 e1)) f1 (ofN (val l1)) e1 = some (decS Z0 (vl s1 l1 e1)) := by
 have f := fits_iff.1 h
 have u : round_Decide.j1 (k + 3) x (nbZ Z0) f0 (nbZ (vl s1 l1 e1)) f1 (ofN (val l1)) e1 = if nbZ Z0 = nbZ (vl s1 l1 e1) then ((round_amount_tiny.f (k + 2) (ofN (val l1)) e1).bind fun t548 => (if t548 = true then (round_Decide.j2 (k + 2) x (x != true) (nbZ Z0) f0) else ((round_amount_zero.f (ofN (val l1)) e1).bind fun t549 => (round_Decide.j2 (k + 2) x (x != t549) (nbZ Z0) f0)))) else (round_Decide.j2 (k + 2) x true (nbZ Z0) f0) := by rw [round_Decide.j1]
 have tt := tz_ty (val l1) (e := e1) (low_le (by omega))
 rw [u, tiny_eq (val l1) e1 (k + 2) f.1 (by omega) (by omega) (by omega), bind_s, zero_eq, bind_s, dec_j2 k x _ Z0 f0 hx, dec_j2 k x _ Z0 f0 hx, dec_j2 k x _ Z0 f0 hx]
 unfold decS isDec
 rw [vl_abs]
 by_cases c : nbZ Z0 = nbZ (vl s1 l1 e1)
 ·rw [if_pos c]
  have g : (if tinyI (val l1) e1 = true then some (if (x != true) = true then ((0 : Int), (0 : Int), false, (0 : Int)) else (nbZ Z0, decFl Z0, true, 0)) else some (if (x != decide (val l1 = 0)) = true then (0, 0, false, 0) else (nbZ Z0, decFl Z0, true, 0))) = some (if (x != (tinyI (val l1) e1 || decide (val l1 = 0))) = true then (0, 0, false, 0) else (nbZ Z0, decFl Z0, true, 0)) := by
   cases tinyI (val l1) e1
   ·rw [if_neg (by decide), Bool.false_or]
   rw [if_pos rfl, Bool.true_or]
  rw [g]
  generalize (tinyI (val l1) e1 || decide (val l1 = 0)) = y at *
  by_cases d : x = y
  ·rw [if_neg (by rw [d]; simp), if_pos ⟨c, by rw [← hx, ← tt, d]⟩]
  rw [if_pos (by simpa using d), if_neg (fun h => d (Bool.eq_iff_iff.2 (hx.trans (h.2.trans tt.symm))))]
 rw [if_neg c, if_pos rfl, if_neg (fun h => c h.1)]
open Classical in
theorem Decide_eq (s0 s1 : Bool) (l0 l1 : List Int) (e0 e1 : Int) (k : Nat) (w0 : Wl l0) (w1 : Wl l1) (hk : 300000000000000000 ≤ k) : round_Decide.f k s0 l0 e0 s1 l1 e1 = some (if okI s0 l0 e0 s1 l1 e1 then decS (vl s0 l0 e0) (vl s1 l1 e1) else (0, 0, false, 2)) := by
 unfold round_Decide.f
 rw [fault_eq s0 s1 l0 l1 e0 e1 k w0 w1 (by omega), bind_s]
 by_cases c : okI s0 l0 e0 s1 l1 e1
 ·rw [if_pos c, if_pos c, if_pos rfl]
  obtain ⟨k, rfl⟩ : ∃ j, k = j + 4 := ⟨k - 4, by omega⟩
  have u : round_Decide.j0 (k + 4) s0 l0 e0 s1 l1 e1 = (round_near.f (k + 3) s0 l0 e0).bind fun bt530 => ((round_near.f (k + 3) s1 l1 e1).bind fun bt532 => ((round_of.f (k + 3) s0 l0 e0).bind fun bt536 => ((round_of.f (k + 3) s1 l1 e1).bind fun bt540 => ((round_amount_tiny.f (k + 3) bt536.1 bt536.2).bind fun t546 => (if t546 = true then (round_Decide.j1 (k + 3) true bt530.1 bt530.2 bt532.1 bt532.2 bt540.1 bt540.2) else ((round_amount_zero.f bt536.1 bt536.2).bind fun t547 => (round_Decide.j1 (k + 3) t547 bt530.1 bt530.2 bt532.1 bt532.2 bt540.1 bt540.2))))))) := by rw [round_Decide.j0]
  have f0 := fits_iff.1 c.1
  have tt := tz_ty (val l0) (e := e0) (low_le (by omega))
  rw [u, near_eq s0 l0 e0 (k + 3) w0 c.1 (by omega), bind_s, near_eq s1 l1 e1 (k + 3) w1 c.2.1 (by omega), bind_s, of_eq s0 l0 e0 (k + 3) w0 c.1 (by omega), bind_s, of_eq s1 l1 e1 (k + 3) w1 c.2.1 (by omega), bind_s]
  show (round_amount_tiny.f (k + 3) (ofN (val l0)) e0).bind _ = _
  rw [tiny_eq (val l0) e0 (k + 3) f0.1 (by omega) (by omega) (by omega), bind_s]
  have J := fun x hx => dec_j1 k x (vl s0 l0 e0) (flA (vl s0 l0 e0).natAbs) (flA (vl s1 l1 e1).natAbs) s1 l1 e1 c.2.1 hx (by omega)
  rw [vl_abs] at J
  by_cases d : tinyI (val l0) e0 = true
  ·rw [if_pos d]
   rw [vl_abs]
   exact J true ⟨fun _ => tt.1 (by rw [d, Bool.true_or]), fun _ => rfl⟩
  rw [if_neg d]
  show (round_amount_zero.f (ofN (val l0)) e0).bind _ = _
  rw [zero_eq, bind_s, vl_abs]
  refine J _ ?_
  rw [← tt, Bool.eq_false_iff.2 d, Bool.false_or]
 rw [if_neg c, if_neg c, if_neg (by decide)]
end Go.Proofs.YtnjfckadjklmfaaDoor.Nf

namespace Go.Proofs.YtnjfckadjklmfaaDoor.Nf
open Go.RowKit Go.Proofs.YtnjfckadjklmfaaDoor.PAll Go.Proofs.YtnjfckadjklmfaaDoorW.PrintWords Go.Proofs.YtnjfckadjklmfaaDoorW.PrintLast Go.Proofs.YtnjfckadjklmfaaDoorW.PrintMore Go.Proofs.YtnjfckadjklmfaaDoor.Nm
set_option linter.unusedVariables false
set_option linter.unusedSimpArgs false
theorem flA_I (v : Nat) {e : Int} (h : lowE ≤ e) : flA (am v e) = if lsI v e = true then (if mbI v e = INFc then 20 else if tinyI v e = true then 24 else 16) else 0 := by
 have ls := ls_eq v h
 have ty := ty_eq v h
 have mi : mbI v e = INFc ↔ mbA KK (am v e) = INn := mb_inf h
 have am0 : v ≠ 0 ↔ am v e ≠ 0 := ⟨fun z => am_pos z e, fun z c => z (by rw [c, am_zero])⟩
 unfold flA
 by_cases c1 : lsI v e = true
 ·rw [if_pos c1, if_pos (ls.1 c1)]
  by_cases c2 : mbI v e = INFc
  ·rw [if_pos c2, if_pos (mi.1 c2)]
  rw [if_neg c2, if_neg (fun c => c2 (mi.2 c))]
  by_cases c3 : tinyI v e = true
  ·rw [if_pos c3, if_pos ⟨am0.1 (ty.1 c3).1, (ty.1 c3).2⟩]
  rw [if_neg c3, if_neg (fun c => c3 (ty.2 ⟨am0.2 c.1, c.2⟩))]
 rw [if_neg c1, if_neg (fun c => c1 (ls.2 c))]
theorem wl_one {v : Int} (h0 : 0 ≤ v) (h1 : v < 18446744073709551616) : Wl [v] := ⟨ws_one h0 h1, len_one v⟩
theorem near_small (v : Nat) (e : Int) (k : Nat) (hv : v < 18446744073709551616) (e0 : -32768 ≤ e) (e1 : e ≤ 32768) (hk : 100000000000000000 ≤ k) : round_Near.f k false [(v : Int)] e = some (mbI v e, (if lsI v e = true then (if mbI v e = INFc then 20 else if tinyI v e = true then 24 else 16) else 0), 0) := by
 have le := low_le (e := e) (by omega)
 have val1 : val [(v : Int)] = v := by rw [val_one, Int.toNat_natCast]
 rw [Near_eq false [(v : Int)] e k (wl_one (by omega) (by omega)) hk]
 unfold nearS
 rw [val1, if_pos (fits_iff.2 ⟨word_big hv, e0, e1⟩), nbZ_vl, vl_abs, val1, flA_I v le, mb_eq v le, Bool.false_and]
 show some (((mbA KK (am v e) : Nat) : Int) + 0, _, _) = _
 rw [Int.add_zero]
theorem bl_1 : bl 1 = 1 := bl_unique (m := 0) (by decide) (by decide)
theorem bl_3 : bl 3 = 2 := bl_unique (m := 1) (by decide) (by decide)
theorem bl_a : bl 1152921504606846977 = 61 := bl_unique (m := 60) (by decide) (by decide)
theorem bl_b : bl 36028797018963969 = 56 := bl_unique (m := 55) (by decide) (by decide)
theorem l1 (k : Nat) (hk : 100000000000000000 ≤ k) : round_Near.f k false [1] (-1075) = some (0, 24, 0) := by
 have := near_small 1 (-1075) k (by decide) (by decide) (by decide) hk
 refine this.trans ?_
 unfold lsI tinyI mbI codeI expI topI
 rw [bl_1]
 decide
theorem l2 (k : Nat) (hk : 100000000000000000 ≤ k) : round_Near.f k false [1] 1024 = some (9218868437227405312, 20, 0) := by
 have := near_small 1 1024 k (by decide) (by decide) (by decide) hk
 refine this.trans ?_
 unfold lsI tinyI mbI codeI expI topI
 rw [bl_1]
 decide
theorem l3 (k : Nat) (hk : 100000000000000000 ≤ k) : round_Near.f k false [3] (-1) = some (4609434218613702656, 0, 0) := by
 have := near_small 3 (-1) k (by decide) (by decide) (by decide) hk
 refine this.trans ?_
 unfold lsI tinyI mbI codeI expI topI
 rw [bl_3]
 decide
theorem mb_a : mbI 1152921504606846977 (-60) = 4607182418800017408 ∧ tinyI 1152921504606846977 (-60) = false := by
 unfold tinyI mbI codeI expI topI
 rw [bl_a]
 decide
theorem mb_b : mbI 36028797018963969 (-55) = 4607182418800017408 ∧ tinyI 36028797018963969 (-55) = false := by
 unfold tinyI mbI codeI expI topI
 rw [bl_b]
 decide
theorem am_ab : am 1152921504606846977 (-60) ≤ am 36028797018963969 (-55) := by
 rw [am_shl (v := 36028797018963969) (e := -55) (E := -60) (by decide) (by decide)]
 exact Nat.mul_le_mul_right _ (by decide)
theorem l4 (k : Nat) (hk : 300000000000000000 ≤ k) : round_Decide.f k false [1152921504606846977] (-60) false [36028797018963969] (-55) = some (4607182418800017408, 16, true, 0) := by
 have va : val [(1152921504606846977 : Int)] = 1152921504606846977 := val_one _
 have vb : val [(36028797018963969 : Int)] = 36028797018963969 := val_one _
 have la : lowE ≤ -60 := by decide
 have lb : lowE ≤ -55 := by decide
 rw [Decide_eq false false _ _ _ _ k (wl_one (by decide) (by decide)) (wl_one (by decide) (by decide)) hk]
 have za : vl false [1152921504606846977] (-60) = (am 1152921504606846977 (-60) : Nat) := by rw [vl_sg, va]; rfl
 have zb : vl false [36028797018963969] (-55) = (am 36028797018963969 (-55) : Nat) := by rw [vl_sg, vb]; rfl
 have na : nbZ (am 1152921504606846977 (-60) : Nat) = 4607182418800017408 := by
  rw [← za, nbZ_vl, va, ← mb_eq _ la, mb_a.1]; decide
 have nb : nbZ (am 36028797018963969 (-55) : Nat) = 4607182418800017408 := by
  rw [← zb, nbZ_vl, vb, ← mb_eq _ lb, mb_b.1]; decide
 have ta : ¬ tyA KK (am 1152921504606846977 (-60)) := fun c => by
  have := (ty_eq 1152921504606846977 la).2 ⟨by decide, c⟩
  rw [mb_a.2] at this; cases this
 have tb : ¬ tyA KK (am 36028797018963969 (-55)) := fun c => by
  have := (ty_eq 36028797018963969 lb).2 ⟨by decide, c⟩
  rw [mb_b.2] at this; cases this
 have ok : okI false [1152921504606846977] (-60) false [36028797018963969] (-55) := by
  refine ⟨?_, ?_, ?_⟩
  ·rw [va]; exact fits_iff.2 ⟨word_big (by decide), by decide, by decide⟩
  ·rw [vb]; exact fits_iff.2 ⟨word_big (by decide), by decide, by decide⟩
  rw [za, zb]; exact Int.ofNat_le.2 am_ab
 have ia : mbA KK (am 1152921504606846977 (-60)) ≠ INn := fun c => by
  have := mb_eq 1152921504606846977 la
  rw [mb_a.1, c] at this
  exact absurd this (by decide)
 rw [if_pos ok, za, zb]
 unfold decS isDec decFl
 rw [Int.natAbs_natCast, Int.natAbs_natCast, if_pos ⟨na.trans nb.symm, fun c => absurd c ta, fun c => absurd c tb⟩, na, if_neg ia, if_neg ta]
theorem lives_eq (k : Nat) (hk : 300000000000000000 ≤ k) : ulplaw05_lives.f k = some true := by
 unfold ulplaw05_lives.f
 show ((round_Near.f k false [1] (-1075)).bind _) = _
 rw [l1 k (by omega), bind_s]
 show ((round_Near.f k false [1] 1024).bind _) = _
 rw [l2 k (by omega), bind_s, l3 k (by omega), bind_s, l4 k hk, bind_s]
 rfl
end Go.Proofs.YtnjfckadjklmfaaDoor.Nf

namespace Go.Proofs.YtnjfckadjklmfaaDoor.Nf
open Go.RowKit Go.Proofs.YtnjfckadjklmfaaDoor.PAll Go.Proofs.YtnjfckadjklmfaaDoorW.PrintWords Go.Proofs.YtnjfckadjklmfaaDoorW.PrintLast Go.Proofs.YtnjfckadjklmfaaDoorW.PrintMore Go.Proofs.YtnjfckadjklmfaaDoor.Nm
set_option linter.unusedVariables false
set_option linter.unusedSimpArgs false
theorem nb_cases (Z : Int) : (Z < 0 ∧ nbZ Z = ((mbA KK Z.natAbs : Nat) : Int) + 9223372036854775808) ∨ (0 ≤ Z ∧ nbZ Z = ((mbA KK Z.natAbs : Nat) : Int)) := by
 unfold nbZ sX
 by_cases h : Z < 0
 ·rw [if_pos (decide_eq_true h)]; exact .inl ⟨h, rfl⟩
 rw [if_neg (by rw [decide_eq_true_iff]; exact h), Int.add_zero]; exact .inr ⟨by omega, rfl⟩
theorem mb_top (A : Nat) : ((mbA KK A : Nat) : Int) ≤ 9218868437227405312 := by
 have := mbA_le KK A
 unfold INn at this; omega
theorem nb_zero : nbZ 0 = 0 := by
 unfold nbZ
 rw [show (0 : Int).natAbs = 0 from rfl, mbA_zero]; decide
def vW (x : Int) : Int := sg (fneg x) (amc KK (x % 9223372036854775808).toNat)
theorem am_amc {x : Int} (hx : Nb.W64 x) : am (Nb.mant x).toNat (Nb.expo x) = amc KK (x % 9223372036854775808).toNat := by
 obtain ⟨a1, a2, a3, a4, a5, a6⟩ := mant_parts hx
 have k := KK_eq
 unfold Nb.mant Nb.expo am amc
 by_cases q : Nb.ex x = 0
 ·rw [if_pos q, if_pos q]
  have h1 : mC (x % 9223372036854775808).toNat = (Nb.fr x).toNat := by unfold mC; rw [if_pos (by omega)]; omega
  have h2 : tC (x % 9223372036854775808).toNat = 0 := by unfold tC; omega
  rw [h1, h2, show (-1074 - lowE).toNat = KK from rfl, Nat.add_zero]
 rw [if_neg q, if_neg q]
 have h1 : mC (x % 9223372036854775808).toNat = (Nb.fr x + 4503599627370496).toNat := by unfold mC; rw [if_neg (by omega)]; omega
 have h2 : tC (x % 9223372036854775808).toNat = (Nb.ex x - 1).toNat := by unfold tC; omega
 rw [h1, h2, show (Nb.ex x - 1075 - lowE).toNat = KK + (Nb.ex x - 1).toNat by unfold lowE at *; omega]
theorem from_vW {x : Int} (hx : Nb.W64 x) (h : Nb.isFin x) : vl (fromS x).1 (fromS x).2.1 (fromS x).2.2.1 = vW x := by
 rw [from_vl hx h, am_amc hx]; rfl
theorem K1 : 1 ≤ KK := by have := KK_2; omega
theorem vW_nb {Z : Int} (h : mbA KK Z.natAbs < INn) : vW (nbZ Z) = sg (decide (Z < 0)) (amc KK (cdA KK Z.natAbs)) := by
 have b := mb_top Z.natAbs
 have e : mbA KK Z.natAbs = cdA KK Z.natAbs := by unfold mbA at *; omega
 unfold vW fneg
 rcases nb_cases Z with ⟨a, c⟩ | ⟨a, c⟩
 ·rw [c, show decide (9223372036854775808 ≤ ((mbA KK Z.natAbs : Nat) : Int) + 9223372036854775808) = decide (Z < 0) by rw [decide_eq_true a, decide_eq_true (by omega)], show (((mbA KK Z.natAbs : Nat) : Int) + 9223372036854775808) % 9223372036854775808 = ((mbA KK Z.natAbs : Nat) : Int) by omega, Int.toNat_natCast, e]
 rw [c, show decide (9223372036854775808 ≤ ((mbA KK Z.natAbs : Nat) : Int)) = decide (Z < 0) by rw [decide_eq_false (show ¬ Z < 0 by omega), decide_eq_false (by omega)], show ((mbA KK Z.natAbs : Nat) : Int) % 9223372036854775808 = ((mbA KK Z.natAbs : Nat) : Int) by omega, Int.toNat_natCast, e]
theorem fin_nb {Z : Int} : Nb.isFin (nbZ Z) ↔ mbA KK Z.natAbs < INn := by
 have b := mb_top Z.natAbs
 unfold Nb.isFin INn
 rcases nb_cases Z with ⟨a, c⟩ | ⟨a, c⟩ <;> rw [c] <;> omega
theorem nearest_word {Z : Int} (h : mbA KK Z.natAbs < INn) (z : Int) : (vW (nbZ Z) - Z).natAbs ≤ (vW z - Z).natAbs := by
 rw [vW_nb h]
 have n := near_all K1 Z.natAbs
 have n0 := n 0
 rw [amc_zero] at n0
 unfold vW
 have n1 := n (z % 9223372036854775808).toNat
 generalize amc KK (z % 9223372036854775808).toNat = c at *
 generalize amc KK (cdA KK Z.natAbs) = y at *
 clear n h
 unfold sg
 by_cases a : Z < 0
 ·rw [if_pos (decide_eq_true a)]
  split <;> omega
 rw [if_neg (by rw [decide_eq_true_iff]; exact a)]
 split <;> omega
theorem own_word {Z : Int} (h : ¬ lsA KK Z.natAbs) : vW (nbZ Z) = Z ∧ mbA KK Z.natAbs < INn := by
 obtain ⟨e, l⟩ := not_ls K1 h
 have m : mbA KK Z.natAbs < INn := by unfold mbA; omega
 refine ⟨?_, m⟩
 rw [vW_nb m, ← e]
 exact sg_self Z
theorem lost_word {Z : Int} (h : lsA KK Z.natAbs) (m : mbA KK Z.natAbs < INn) : vW (nbZ Z) ≠ Z := by
 rw [vW_nb m]
 intro c
 have d : Z.natAbs % 2 ^ shA KK Z.natAbs ≠ 0 := by
  rcases h with h | h
  ·unfold mbA at m; omega
  exact h
 refine ls_ne K1 d ?_
 have := congrArg Int.natAbs c
 rw [sg_abs] at this
 exact this.symm
theorem of_word {x : Int} (hx : Nb.W64 x) (h : Nb.isFin x) : ¬ lsA KK (vW x).natAbs ∧ nbZ (vW x) = (if x % 9223372036854775808 = 0 then 0 else x) := by
 have c := cdA_amc K1 (x % 9223372036854775808).toNat
 have hf : (x % 9223372036854775808).toNat < INn := by unfold Nb.isFin at h; unfold INn; omega
 have e : (vW x).natAbs = amc KK (x % 9223372036854775808).toNat := by unfold vW; rw [sg_abs]
 have l : ¬ lsA KK (vW x).natAbs := by
  rw [e]; unfold lsA; rw [c.1, c.2]
  rintro (d | d)
  ·omega
  exact d rfl
 refine ⟨l, ?_⟩
 have mb : mbA KK (vW x).natAbs = (x % 9223372036854775808).toNat := by rw [e]; unfold mbA; rw [c.1]; omega
 obtain ⟨x0, x1⟩ := hx
 by_cases z : x % 9223372036854775808 = 0
 ·rw [if_pos z]
  have : vW x = 0 := by unfold vW; rw [z, show (0 : Int).toNat = 0 from rfl, amc_zero, sg_zero]
  rw [this, nb_zero]
 rw [if_neg z]
 have am0 : amc KK (x % 9223372036854775808).toNat ≠ 0 := fun d => by
  have := c.1
  rw [d, cdA_zero] at this
  omega
 unfold nbZ
 rw [mb]
 unfold vW
 rw [sg_neg_iff _ am0]
 unfold fneg sX
 by_cases g : 9223372036854775808 ≤ x
 ·rw [if_pos (decide_eq_true g)]; omega
 rw [if_neg (by rw [decide_eq_true_iff]; exact g)]; omega
end Go.Proofs.YtnjfckadjklmfaaDoor.Nf

namespace Go.Proofs.YtnjfckadjklmfaaDoor.Nf
open Go.RowKit Go.Proofs.YtnjfckadjklmfaaDoor.PAll Go.Proofs.YtnjfckadjklmfaaDoorW.PrintWords Go.Proofs.YtnjfckadjklmfaaDoorW.PrintLast Go.Proofs.YtnjfckadjklmfaaDoorW.PrintMore Go.Proofs.YtnjfckadjklmfaaDoor.Nm
set_option linter.unusedVariables false
set_option linter.unusedSimpArgs false
def jj : Nat := (-32768 - lowE).toNat
theorem jj_eq : (jj : Int) = -32768 - lowE := by unfold jj lowE; omega
def Sm (n : Nat) (W : Int) : Prop := ∃ V : Int, W = V * 2 ^ jj ∧ bl V.natAbs ≤ n
theorem Sm.sub {n : Nat} {a b : Int} (ha : Sm n a) (hb : Sm n b) : Sm (n + 1) (a - b) := by
 obtain ⟨u, rfl, hu⟩ := ha
 obtain ⟨v, rfl, hv⟩ := hb
 refine ⟨u - v, (Int.sub_mul _ _ _).symm, ?_⟩
 rw [bl_le_iff] at *
 rw [Nat.pow_succ]
 generalize 2 ^ n = P at *
 omega
theorem sm_sg {n A B : Nat} (s : Bool) (e : A = B * 2 ^ jj) (h : bl B ≤ n) : Sm n (sg s A) := by
 refine ⟨sg s B, ?_, by rw [sg_abs]; exact h⟩
 rw [e, sg_shl]
theorem len_blm {a n m : Nat} (h : bl a ≤ n) (g : n ≤ 64 * m) : (ofN a).length ≤ m := by
 rw [ofN_len, show (18446744073709551616 : Nat) ^ m = 2 ^ (64 * m) by rw [Nat.pow_mul]]
 rw [bl_le_iff] at h
 exact Nat.lt_of_lt_of_le h (Nat.pow_le_pow_right (by decide) g)
theorem bl_mul_le {v n m : Nat} (h : bl v + n ≤ m) : bl (v * 2 ^ n) ≤ m := by
 rw [bl_le_iff]; exact pow_le_mul h
theorem sm_rs {n : Nat} {W : Int} (h : Sm n W) (hn : n ≤ 33900) : Rs (cz W lowE).2.1 (cz W lowE).2.2 := by
 obtain ⟨V, rfl, hv⟩ := h
 have e := jj_eq
 rw [cz_shl, show lowE + (jj : Int) = -32768 by omega]
 unfold cz
 exact rs_cf _ (len_blm hv (by omega)) (by omega) (by omega)
theorem vl_pos (W : Int) : vl false (cz W lowE).2.1 (cz W lowE).2.2 = (W.natAbs : Int) := by
 have := vl_abs (cz W lowE).1 (cz W lowE).2.1 (cz W lowE).2.2
 rw [vl_cz] at this
 rw [vl_sg, this]; rfl
theorem val_cz0 (W : Int) : val (cz W lowE).2.1 = 0 ↔ W = 0 := by
 have := vl_abs (cz W lowE).1 (cz W lowE).2.1 (cz W lowE).2.2
 rw [vl_cz] at this
 constructor
 ·intro h
  rw [h, am_zero] at this
  omega
 intro h
 refine Classical.byContradiction fun c => am_pos c (cz W lowE).2.2 ?_
 rw [← this, h]; rfl
theorem fin_bl {K A : Nat} (h : mbA K A < INn) : bl A ≤ K + 2098 := by
 refine Nat.not_lt.1 fun c => ?_
 have s : shA K A = bl A - 53 := Nat.max_eq_left (by omega)
 have b := rnd_bot (K := K) (A := A) (by omega)
 unfold mbA cdA INn at h
 rw [s] at h b
 obtain ⟨q, hq⟩ : ∃ q, bl A - 53 - K = q := ⟨_, rfl⟩
 have : 2046 ≤ q := by omega
 rw [hq] at h
 omega
theorem sm_num {s : Bool} {l : List Int} {e : Int} (f : fits (val l) e = true) (h : mbA KK (vl s l e).natAbs < INn) : Sm 33792 (vl s l e) := by
 have g := fits_iff.1 f
 rw [vl_abs] at h
 have b := fin_bl h
 have sh := am_shl (v := val l) (e := e) (E := -32768) (by unfold lowE; omega) g.2.1
 have j := jj_eq
 have k := KK_eq
 rw [show (-32768 - lowE).toNat = jj from rfl] at sh
 rw [vl_sg]
 refine sm_sg s sh ?_
 by_cases z : val l = 0
 ·rw [z, Nat.zero_mul, bl_zero]; omega
 have n0 : val l * 2 ^ (e - -32768).toNat ≠ 0 := Nat.ne_of_gt (Nat.mul_pos (Nat.pos_of_ne_zero z) (Nat.pow_pos (by decide)))
 rw [sh, bl_shl n0] at b
 generalize bl (val l * 2 ^ (e - -32768).toNat) = t at *
 omega
theorem sm_word {x : Int} (hx : Nb.W64 x) (h : Nb.isFin x) : Sm 33792 (vW x) := by
 obtain ⟨p, q, r⟩ := c_parts (x % 9223372036854775808).toNat
 have j := jj_eq
 have k := KK_eq
 unfold Nb.isFin at h
 unfold vW
 refine sm_sg (B := mC (x % 9223372036854775808).toNat * 2 ^ (tC (x % 9223372036854775808).toNat + 31694)) _ ?_ ?_
 ·unfold amc
  rw [Nat.mul_assoc, ← Nat.pow_add]
  congr 2; omega
 refine bl_mul_le ?_
 have : bl (mC (x % 9223372036854775808).toNat) ≤ 53 := by rw [bl_le_iff, P53]; exact q
 omega
theorem far_eq (s0 s1 : Bool) (l0 l1 : List Int) (e0 e1 : Int) (k : Nat) (h0 : Rt l0 e0) (h1 : Rs l1 e1) (hk : 200000000000000000 ≤ k) : ulplaw05_far.f k s0 l0 e0 s1 l1 e1 = some (false, (cz (vl s0 l0 e0 - vl s1 l1 e1) lowE).2.1, (cz (vl s0 l0 e0 - vl s1 l1 e1) lowE).2.2) := by
 unfold ulplaw05_far.f
 rw [rLess_eq' s0 s1 l0 l1 e0 e1 k h0 h1 hk, bind_s]
theorem from_ok {x : Int} (h : Nb.isFin x) : (fromS x).2.2.2 = 0 := by unfold fromS; rw [if_pos h]
theorem from_no {x : Int} (h : ¬ Nb.isFin x) : fromS x = (false, [], 0, 5) := by unfold fromS; rw [if_neg h]
theorem from_rs {x : Int} (hx : Nb.W64 x) (h : Nb.isFin x) : Rs (fromS x).2.1 (fromS x).2.2.1 := by
 have f := from_fits hx h
 refine rs_fits ?_ ?_ f
 ·unfold fromS; rw [if_pos h]
  exact (wl_cf (fneg x) (Nb.expo x) (by have := Nb.mant_bd hx; have := len_word (v := (Nb.mant x).toNat) (by omega); omega)).1
 unfold fromS; rw [if_pos h]
 exact (wl_cf (fneg x) (Nb.expo x) (by have := Nb.mant_bd hx; have := len_word (v := (Nb.mant x).toNat) (by omega); omega)).2
theorem cls_inf {x : Int} (hx : Nb.W64 x) (n : Nb.isNum x) : Nb.cls x = 4 ↔ ¬ Nb.isFin x := by
 obtain ⟨a1, a2, a3, a4, a5, a6⟩ := mant_parts hx
 unfold Nb.isNum at n
 unfold Nb.cls Nb.isFin
 by_cases c : Nb.ex x = 0
 ·rw [if_pos c]; split <;> omega
 rw [if_neg c]
 by_cases d : Nb.ex x < 2047
 ·rw [if_pos d]; omega
 rw [if_neg d]
 by_cases e : Nb.fr x = 0
 ·rw [if_pos e]; omega
 omega
theorem up_num {x : Int} (hx : Nb.W64 x) (h : Nb.isFin x) : Nb.isNum (Nb.up x) ∧ Nb.W64 (Nb.up x) := by
 obtain ⟨a, b⟩ := hx
 unfold Nb.isFin at h
 have n : Nb.isNum x := by unfold Nb.isNum; omega
 refine ⟨?_, ?_⟩
 ·unfold Nb.up
  rw [if_pos n, if_neg (by omega)]
  unfold Nb.isNum
  split
  ·omega
  split <;> omega
 unfold Nb.up
 rw [if_pos n, if_neg (by omega)]
 unfold Nb.W64
 split
 ·omega
 split <;> omega
theorem down_num {x : Int} (hx : Nb.W64 x) (h : Nb.isFin x) : Nb.isNum (Nb.down x) ∧ Nb.W64 (Nb.down x) := by
 obtain ⟨a, b⟩ := hx
 unfold Nb.isFin at h
 have n : Nb.isNum x := by unfold Nb.isNum; omega
 refine ⟨?_, ?_⟩
 ·unfold Nb.down
  rw [if_pos n, if_neg (by omega)]
  unfold Nb.isNum
  split
  ·omega
  split <;> omega
 unfold Nb.down
 rw [if_pos n, if_neg (by omega)]
 unfold Nb.W64
 split
 ·omega
 split <;> omega
end Go.Proofs.YtnjfckadjklmfaaDoor.Nf

namespace Go.Proofs.YtnjfckadjklmfaaDoor.Pure
open Go.RowKit Go.Proofs.YtnjfckadjklmfaaDoor.PAll Go.Proofs.YtnjfckadjklmfaaDoorW.PrintWords Go.Proofs.YtnjfckadjklmfaaDoorW.PrintLast Go.Proofs.YtnjfckadjklmfaaDoorW.PrintMore
set_option linter.unusedVariables false
set_option linter.unusedSimpArgs false
open Go.Proofs.YtnjfckadjklmfaaDoor.Nm Go.Proofs.YtnjfckadjklmfaaDoor.Nf
theorem nearS_ok (s : Bool) (l : List Int) (e : Int) (h : fits (val l) e = true) : nearS s l e = (nbZ (vl s l e), flA (vl s l e).natAbs, 0) := by
 unfold nearS; exact if_pos h
theorem nearS_no (s : Bool) (l : List Int) (e : Int) (h : ¬ fits (val l) e = true) : nearS s l e = (0, 0, 2) := by
 unfold nearS; exact if_neg h
theorem fl_and (A : Nat) : ((Go.bits .and .u8 (flA A) 16) != 0) = true ↔ lsA KK A := by
 unfold flA
 by_cases c : lsA KK A
 ·rw [if_pos c]
  refine ⟨fun _ => c, fun _ => ?_⟩
  by_cases d : mbA KK A = INn
  ·rw [if_pos d]; decide
  rw [if_neg d]
  by_cases e : A ≠ 0 ∧ tyA KK A
  ·rw [if_pos e]; decide
  rw [if_neg e]; decide
 rw [if_neg c]
 exact ⟨fun h => absurd h (by decide), fun h => absurd h c⟩
theorem fl_zero {A : Nat} (h : ¬ lsA KK A) : flA A = 0 := by unfold flA; exact if_neg h
theorem step (k : Nat) (s : Bool) (l : List Int) (e : Int) (z : Int) (X : Option Bool) (w : Wl l) (f : fits (val l) e = true) (h : mbA KK (vl s l e).natAbs < INn) (hz : Nb.W64 z) (nz : Nb.isNum z) (hk : 300000000000000000 ≤ k) :
  ((bits_Class.f k z).bind fun t864 => (if t864 = 4 then X else ((dyad_From.f k z).bind fun bt865 => (if bt865.2.2.2 = 0 then ((ulplaw05_far.f k bt865.1 bt865.2.1 bt865.2.2.1 s l e).bind fun bt872 => ((ulpref04_Order.f k false (cz (vW (nbZ (vl s l e)) - vl s l e) lowE).2.1 (cz (vW (nbZ (vl s l e)) - vl s l e) lowE).2.2 bt872.1 bt872.2.1 bt872.2.2).bind fun t877 => (if t877 > 0 then (some false) else X))) else (some false))))) = X := by
 have rd_ := rs_fits w.1 w.2 f
 have sd := sm_num (s := s) f h
 have sy := sm_word (nb_w (vl s l e)) (fin_nb.2 h)
 rw [Nb.class_eq (by omega) hz, bind_s]
 by_cases c : Nb.cls z = 4
 ·rw [if_pos c]
 have fz : Nb.isFin z := Classical.byContradiction fun d => c ((cls_inf hz nz).2 d)
 have sz := sm_word hz fz
 rw [if_neg c, dFrom_eq z k hz (by omega), bind_s, if_pos (from_ok fz), far_eq _ s _ l _ e k (from_rs hz fz).t rd_ (by omega), bind_s, from_vW hz fz]
 show ((ulpref04_Order.f k false _ _ false (cz (vW z - vl s l e) lowE).2.1 (cz (vW z - vl s l e) lowE).2.2).bind _) = _
 rw [rOrder_eq false false _ _ _ _ k (sm_rs (sy.sub sd) (by decide)).t (sm_rs (sz.sub sd) (by decide)) (by omega), bind_s, vl_pos, vl_pos]
 have := nearest_word h z
 rw [if_neg]
 rw [cmpZ_gt]
 omega
theorem RoundOnce (x : Int) (s0 : Bool) (l0 : List Int) (e0 : Int) (h1 : (Lit.int .u64 x).wf = true) (n0 : l0.length * 8 ≤ 140737488351232) (w0 : ∀ x ∈ l0, (Lit.int .u64 x).wf = true) (_ : (Lit.int .i64 e0).wf = true) : ∃ k, ulplaw05_RoundOnce.f k x s0 l0 e0 = some true := by
 have h0 : Wl l0 := ⟨ws_wf w0, by omega⟩
 have hx := Nb.w64_of h1
 obtain ⟨k, hk⟩ : ∃ k, k = 400000000000000000 := ⟨_, rfl⟩
 have hk0 : 400000000000000000 ≤ k := by omega
 clear hk
 refine ⟨k + 5, ?_⟩
 have J : ulplaw05_RoundOnce.j0 (k + 5) s0 l0 e0 = some true := by
  rw [ulplaw05_RoundOnce.j0, Near_eq s0 l0 e0 (k + 4) h0 (by omega), bind_s]
  by_cases f : fits (val l0) e0 = true
  ·rw [nearS_ok s0 l0 e0 f, if_pos rfl, Nb.class_eq (by omega) (nb_w _), bind_s]
   have nm : Nb.isNum (nbZ (vl s0 l0 e0)) := by
    have b := mb_top (vl s0 l0 e0).natAbs
    unfold Nb.isNum
    rcases nb_cases (vl s0 l0 e0) with ⟨a, c⟩ | ⟨a, c⟩ <;> rw [c] <;> omega
   show ulplaw05_RoundOnce.j1 (k + 4) 0 (Nb.cls (nbZ (vl s0 l0 e0)) == 4) s0 l0 e0 (nbZ (vl s0 l0 e0)) (flA (vl s0 l0 e0).natAbs) = some true
   by_cases c : Nb.isFin (nbZ (vl s0 l0 e0))
   ·have h := fin_nb.1 c
    have c4 : (Nb.cls (nbZ (vl s0 l0 e0)) == 4) = false := by
     rw [beq_eq_false_iff_ne]; exact fun d => (cls_inf (nb_w _) nm).1 d c
    have rd_ := rs_fits h0.1 h0.2 f
    rw [c4, ulplaw05_RoundOnce.j1, if_neg (by decide), dFrom_eq _ (k + 3) (nb_w _) (by omega), bind_s, if_pos (from_ok c), far_eq _ s0 _ l0 _ e0 (k + 3) (from_rs (nb_w _) c).t rd_ (by omega), bind_s, from_vW (nb_w _) c, Nb.up_eq (by omega) (nb_w _), bind_s, Nb.down_eq (by omega) (nb_w _), bind_s, bind_s]
    have un := up_num (nb_w _) c
    have dn_ := down_num (nb_w _) c
    have S := fun k z X => step k s0 l0 e0 z X h0 f h
    show ulplaw05_RoundOnce.l0 (k + 3) [Nb.up (nbZ (vl s0 l0 e0)), Nb.down (nbZ (vl s0 l0 e0))] 2 0 s0 l0 e0 (nbZ (vl s0 l0 e0)) (flA (vl s0 l0 e0).natAbs) false (cz (vW (nbZ (vl s0 l0 e0)) - vl s0 l0 e0) lowE).2.1 (cz (vW (nbZ (vl s0 l0 e0)) - vl s0 l0 e0) lowE).2.2 = some true
    rw [ulplaw05_RoundOnce.l0, if_pos (by decide), if_pos (by decide), if_pos (by show (0 : Int) < 2; decide)]
    refine (S (k + 2) _ _ un.2 un.1 (by omega)).trans ?_
    show ulplaw05_RoundOnce.l0 (k + 2) [Nb.up (nbZ (vl s0 l0 e0)), Nb.down (nbZ (vl s0 l0 e0))] 2 (wrap64 (0 + 1)) s0 l0 e0 (nbZ (vl s0 l0 e0)) (flA (vl s0 l0 e0).natAbs) false (cz (vW (nbZ (vl s0 l0 e0)) - vl s0 l0 e0) lowE).2.1 (cz (vW (nbZ (vl s0 l0 e0)) - vl s0 l0 e0) lowE).2.2 = some true
    rw [show wrap64 (0 + 1) = 1 by unfold wrap64; omega, ulplaw05_RoundOnce.l0, if_pos (by decide), if_pos (by decide), if_pos (by show (1 : Int) < 2; decide)]
    refine (S (k + 1) _ _ dn_.2 dn_.1 (by omega)).trans ?_
    show ulplaw05_RoundOnce.l0 (k + 1) [Nb.up (nbZ (vl s0 l0 e0)), Nb.down (nbZ (vl s0 l0 e0))] 2 (wrap64 (1 + 1)) s0 l0 e0 (nbZ (vl s0 l0 e0)) (flA (vl s0 l0 e0).natAbs) false (cz (vW (nbZ (vl s0 l0 e0)) - vl s0 l0 e0) lowE).2.1 (cz (vW (nbZ (vl s0 l0 e0)) - vl s0 l0 e0) lowE).2.2 = some true
    have ro := sm_rs ((sm_word (nb_w (vl s0 l0 e0)) c).sub (sm_num (s := s0) f h)) (by decide)
    rw [show wrap64 (1 + 1) = 2 by unfold wrap64; omega, ulplaw05_RoundOnce.l0, if_neg (by decide), rZero_eq _ _ _ k ro.ws ro.len (by omega), bind_s]
    have fa := fl_and (vl s0 l0 e0).natAbs
    by_cases q : lsA KK (vl s0 l0 e0).natAbs
    ·have ne := lost_word q h
     rw [fa.2 q, decide_eq_false (fun d => ne (by have := (val_cz0 _).1 d; omega))]; rfl
    have eq := (own_word q).1
    rw [Bool.eq_false_iff.2 (fun d => q (fa.1 d)), decide_eq_true ((val_cz0 _).2 (by omega))]; rfl
   have c4 : (Nb.cls (nbZ (vl s0 l0 e0)) == 4) = true := by
    rw [beq_iff_eq]; exact (cls_inf (nb_w _) nm).2 c
   rw [c4, ulplaw05_RoundOnce.j1, if_pos rfl, if_pos rfl]
  rw [nearS_no s0 l0 e0 f, if_neg (by decide), ulplaw05_RoundOnce.j1, if_pos rfl, if_neg (by decide)]
  rfl
 unfold ulplaw05_RoundOnce.f
 rw [lives_eq (k + 5) (by omega), bind_s, if_pos rfl, dFrom_eq x (k + 5) hx (by omega), bind_s]
 by_cases c : Nb.isFin x
 ·have o := of_word hx c
  have wf : Wl (fromS x).2.1 := (from_rs hx c).wl
  rw [if_pos (from_ok c), Near_eq _ _ _ (k + 5) wf (by omega), bind_s, nearS_ok _ _ _ (from_fits hx c), from_vW hx c, if_pos rfl, fl_zero o.1, if_pos rfl]
  show (if nbZ (vW x) = x then _ else if nbZ (vW x) = 0 then _ else _) = _
  rw [o.2]
  by_cases z : x % 9223372036854775808 = 0
  ·rw [if_pos z]
   by_cases z2 : 0 = x
   ·rw [if_pos z2]; exact J
   rw [if_neg z2, if_pos rfl, if_pos (by obtain ⟨a, b⟩ := hx; omega)]; exact J
  rw [if_neg z, if_pos rfl]; exact J
 rw [from_no c, if_neg (by decide)]; exact J
end Go.Proofs.YtnjfckadjklmfaaDoor.Pure
