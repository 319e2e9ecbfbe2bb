/- Plain part. -/
import Derived.Test.YtnjfckadjklmfaaDoorXRoundRisesN2
import Derived.Test.YtnjfckadjklmfaaDoorXRoundRisesP0
import Derived.Test.YtnjfckadjklmfaaDoorXRoundRisesP1
import Derived.Test.YtnjfckadjklmfaaDoorXRoundRisesP4
import Derived.Test.YtnjfckadjklmfaaDoorXRoundRisesP5
import Derived.Test.YtnjfckadjklmfaaDoorXRoundRisesP6
import Derived.Test.YtnjfckadjklmfaaDoorXRoundRisesP15
import Derived.Test.YtnjfckadjklmfaaDoorXRoundRisesP16
import Derived.Test.YtnjfckadjklmfaaDoorXRoundRisesP14
import Derived.Test.YtnjfckadjklmfaaDoorXRoundRisesP12
import Derived.Test.YtnjfckadjklmfaaDoorXRoundRisesP13
import Derived.Test.YtnjfckadjklmfaaDoorXRoundRisesP21
import Derived.Test.YtnjfckadjklmfaaDoorXRoundRisesP22
namespace Go.Proofs.YtnjfckadjklmfaaDoor.Nf
open Go.RowKit Go.Proofs.YtnjfckadjklmfaaDoor.PAll Go.Proofs.YtnjfckadjklmfaaDoorW.PrintWords Go.Proofs.YtnjfckadjklmfaaDoorW.PrintLast Go.Proofs.YtnjfckadjklmfaaDoorW.PrintMore Go.Proofs.YtnjfckadjklmfaaDoor.Nm
set_option linter.unusedVariables false
set_option linter.unusedSimpArgs false
open Classical in
noncomputable def flA (A : Nat) : Int := if lsA KK A then (if mbA KK A = INn then 20 else if A ≠ 0 ∧ tyA KK A then 24 else 16) else 0
def nbZ (Z : Int) : Int := ((mbA KK Z.natAbs : Nat) : Int) + sX (decide (Z < 0))
theorem mbA_le (K A : Nat) : mbA K A ≤ INn := Nat.min_le_left _ _
theorem vl_sg (s : Bool) (l : List Int) (e : Int) : vl s l e = sg s (am (val l) e) := by unfold vl; rw [Vz_am]
theorem sgn_vl (s : Bool) (l : List Int) (e : Int) : decide (vl s l e < 0) = (s && decide (val l ≠ 0)) := by
 rw [vl_sg]
 by_cases z : val l = 0
 ·rw [z, am_zero, sg_zero]; cases s <;> rfl
 rw [sg_neg_iff s (am_pos z e), decide_eq_true z, Bool.and_true]
theorem nbZ_vl (s : Bool) (l : List Int) (e : Int) : nbZ (vl s l e) = ((mbA KK (am (val l) e) : Nat) : Int) + sX (s && decide (val l ≠ 0)) := by
 unfold nbZ; rw [sgn_vl, vl_abs]
theorem ng_small {m : Nat} (h : m ≤ INn) : Nb.ng (m : Int) = (m : Int) + 9223372036854775808 := by
 unfold Nb.ng; exact if_pos (by unfold INn at h; omega)
theorem near_j0 (k : Nat) (s : Bool) (l : List Int) (e e' : Int) (v m : Nat) (fl : Int) (hm : m ≤ INn) : round_near.j0 (k + 1) s l e (ofN v) e' (m : Int) fl = some ((m : Int) + sX (s && decide (v ≠ 0)), fl) := by
 show (if s = true then _ else _) = _
 cases s with
 | false => rw [if_neg (by decide), Bool.false_and]; show _ = some ((m : Int) + 0, fl); rw [Int.add_zero]
 | true =>
  rw [if_pos rfl, zero_eq, bind_s, Bool.true_and]
  by_cases z : v = 0
  ·rw [if_pos (decide_eq_true z), decide_eq_false (not_not_intro z)]; show _ = some ((m : Int) + 0, fl); rw [Int.add_zero]
  rw [if_neg (by rw [decide_eq_true_iff]; exact z), Nb.neg_eq ⟨by omega, by unfold INn at hm; omega⟩, bind_s, ng_small hm, decide_eq_true z]; rfl
theorem of_eq (s : Bool) (l : List Int) (e : Int) (k : Nat) (w : Wl l) (h : fits (val l) e = true) (hk : 100000000000000000 ≤ k) : round_of.f k s l e = some (ofN (val l), e) := by
 have f := fits_iff.1 h
 have wl := w.2
 unfold round_of.f
 rw [Norm_eq l k w.1 w.2 (by omega), if_pos f.1, bind_s]
theorem low_le {e : Int} (h : -300000 ≤ e) : lowE ≤ e := by unfold lowE; omega
theorem mb_inf {v : Nat} {e : Int} (h : lowE ≤ e) : mbI v e = 9218868437227405312 ↔ mbA KK (am v e) = INn := by
 rw [mb_eq v h]; show _ = ((INn : Nat) : Int) ↔ _; omega
theorem near_eq (s : Bool) (l : List Int) (e : Int) (k : Nat) (w : Wl l) (h : fits (val l) e = true) (hk : 100000000000000000 ≤ k) : round_near.f k s l e = some (nbZ (vl s l e), flA (vl s l e).natAbs) := by
 have f := fits_iff.1 h
 obtain ⟨k, rfl⟩ : ∃ j, k = j + 1 := ⟨k - 1, by omega⟩
 unfold round_near.f
 rw [of_eq s l e (k + 1) w h hk, bind_s]
 show (round_amount_nearest.f (k + 1) (ofN (val l)) e).bind _ = _
 have le := low_le (e := e) (by omega)
 rw [nearest_eq (val l) e (k + 1) f.1 (by omega) (by omega) (by omega), bind_s]
 show (if lsI (val l) e = true then (if mbI (val l) e = 9218868437227405312 then round_near.j0 (k + 1) s l e (ofN (val l)) e (mbI (val l) e) 20 else _) else round_near.j0 (k + 1) s l e (ofN (val l)) e (mbI (val l) e) 0) = _
 rw [tiny_eq (val l) e (k + 1) f.1 (by omega) (by omega) (by omega), bind_s, nbZ_vl, vl_abs]
 have ls := ls_eq (val l) le
 have ty := ty_eq (val l) le
 have mi := mb_inf (v := val l) le
 have mb := mb_eq (val l) le
 have am0 : val l ≠ 0 ↔ am (val l) e ≠ 0 := ⟨fun z => am_pos z e, fun z c => z (by rw [c, am_zero])⟩
 have J := fun fl => near_j0 k s l e e (val l) (mbA KK (am (val l) e)) fl (mbA_le _ _)
 unfold flA
 by_cases c1 : lsA KK (am (val l) e)
 ·rw [if_pos (ls.2 c1), if_pos c1]
  by_cases c2 : mbA KK (am (val l) e) = INn
  ·rw [if_pos (mi.2 c2), if_pos c2, mb, J]
  rw [if_neg (fun c => c2 (mi.1 c)), if_neg c2, mb]
  by_cases c3 : am (val l) e ≠ 0 ∧ tyA KK (am (val l) e)
  ·rw [if_pos (ty.2 ⟨am0.2 c3.1, c3.2⟩), if_pos c3, show Go.bits .or .u8 16 8 = 24 by decide, J]
  rw [if_neg (fun c => c3 ⟨am0.1 (ty.1 c).1, (ty.1 c).2⟩), if_neg c3, J]
 rw [if_neg (fun c => c1 (ls.1 c)), if_neg c1, mb, J]
noncomputable def nearS (s : Bool) (l : List Int) (e : Int) : Int × Int × Int := if fits (val l) e = true then (nbZ (vl s l e), flA (vl s l e).natAbs, 0) else (0, 0, 2)
theorem Check_eq (s : Bool) (l : List Int) (e : Int) (k : Nat) (w : Wl l) (hk : 100000000000000000 ≤ k) : dyad_Check.f k s l e = some (if fits (val l) e = true then 0 else 2) := by
 unfold dyad_Check.f
 rw [right_eq s l e k w.1 w.2 hk, bind_s]
 by_cases h : fits (val l) e = true
 ·rw [h]; rfl
 rw [Bool.eq_false_iff.2 h]; rfl
theorem Near_eq (s : Bool) (l : List Int) (e : Int) (k : Nat) (w : Wl l) (hk : 100000000000000000 ≤ k) : round_Near.f k s l e = some (nearS s l e) := by
 unfold round_Near.f nearS
 rw [Check_eq s l e k w hk, bind_s]
 by_cases h : fits (val l) e = true
 ·rw [if_pos h, if_pos rfl, near_eq s l e k w h hk, bind_s, if_pos h]
 rw [if_neg h, if_neg (by decide), if_neg h]
end Go.Proofs.YtnjfckadjklmfaaDoor.Nf

namespace Go.Proofs.YtnjfckadjklmfaaDoor.Nf
open Go.RowKit Go.Proofs.YtnjfckadjklmfaaDoor.PAll Go.Proofs.YtnjfckadjklmfaaDoorW.PrintWords Go.Proofs.YtnjfckadjklmfaaDoorW.PrintLast Go.Proofs.YtnjfckadjklmfaaDoorW.PrintMore Go.Proofs.YtnjfckadjklmfaaDoor.Nm
set_option linter.unusedVariables false
set_option linter.unusedSimpArgs false
def okI (s0 : Bool) (l0 : List Int) (e0 : Int) (s1 : Bool) (l1 : List Int) (e1 : Int) : Prop := fits (val l0) e0 = true ∧ fits (val l1) e1 = true ∧ vl s0 l0 e0 ≤ vl s1 l1 e1
theorem cmpZ_gt (x y : Int) : cmpZ x y > 0 ↔ ¬ x ≤ y := by
 unfold cmpZ
 by_cases c : x < y
 ·rw [if_pos c]; omega
 rw [if_neg c]
 by_cases d : x = y
 ·rw [if_pos d]; omega
 rw [if_neg d]; omega
theorem cmpZ_le (x y : Int) : cmpZ x y ≤ 0 ↔ x ≤ y := by
 have := cmpZ_gt x y
 constructor <;> intro h <;> omega
open Classical in
theorem fault_eq (s0 s1 : Bool) (l0 l1 : List Int) (e0 e1 : Int) (k : Nat) (w0 : Wl l0) (w1 : Wl l1) (hk : 200000000000000000 ≤ k) : round_fault.f k s0 l0 e0 s1 l1 e1 = some (if okI s0 l0 e0 s1 l1 e1 then 0 else 2) := by
 unfold round_fault.f okI
 rw [dCmp_eq s0 s1 l0 l1 e0 e1 k w0 w1 hk, bind_s]
 unfold cmpS
 by_cases h : fits (val l0) e0 = true ∧ fits (val l1) e1 = true
 ·rw [if_pos h, if_pos rfl]
  by_cases c : vl s0 l0 e0 ≤ vl s1 l1 e1
  ·rw [if_neg (fun d => (cmpZ_gt _ _).1 d c), if_pos ⟨h.1, h.2, c⟩]
  rw [if_pos ((cmpZ_gt _ _).2 c), if_neg (fun d => c d.2.2)]
 rw [if_neg h, if_neg (show ¬ (2 : Int) = 0 by decide), if_neg (fun d => h ⟨d.1, d.2.1⟩)]
theorem tz_ty (n : Nat) {e : Int} (h : lowE ≤ e) : (tinyI n e || decide (n = 0)) = true ↔ tyA KK (am n e) := by
 rw [Bool.or_eq_true, ty_eq n h, decide_eq_true_iff]
 by_cases z : n = 0
 ·subst z; rw [am_zero]; exact ⟨fun _ => tyA_zero _, fun _ => .inr rfl⟩
 exact ⟨fun c => c.elim (fun c => c.2) (fun c => absurd c z), fun c => .inl ⟨z, c⟩⟩
theorem am_nb (Z : Int) : Nb.am (nbZ Z) = ((mbA KK Z.natAbs : Nat) : Int) := by
 have := mbA_le KK Z.natAbs
 unfold INn at this
 unfold Nb.am nbZ sX
 split <;> omega
theorem nb_w (Z : Int) : Nb.W64 (nbZ Z) := by
 have := mbA_le KK Z.natAbs
 unfold INn at this
 unfold Nb.W64 nbZ sX
 split <;> omega
theorem am_inf (Z : Int) : Nb.am (nbZ Z) = 9218868437227405312 ↔ mbA KK Z.natAbs = INn := by
 rw [am_nb]; unfold INn; omega
open Classical in
noncomputable def decFl (Z : Int) : Int := if mbA KK Z.natAbs = INn then 20 else if tyA KK Z.natAbs then 24 else 16
def isDec (Z0 Z1 : Int) : Prop := nbZ Z0 = nbZ Z1 ∧ (tyA KK Z0.natAbs ↔ tyA KK Z1.natAbs)
open Classical in
noncomputable def decS (Z0 Z1 : Int) : Int × Int × Bool × Int := if isDec Z0 Z1 then (nbZ Z0, decFl Z0, true, 0) else (0, 0, false, 0)
theorem dec_j3 (k : Nat) (x : Bool) (Z : Int) (fl : Int) (hx : x = true ↔ tyA KK Z.natAbs) : round_Decide.j3 (k + 1) x (nbZ Z) fl = some (nbZ Z, decFl Z, true, 0) := by
 have u : round_Decide.j3 (k + 1) x (nbZ Z) fl = (bits_Abs.f (nbZ Z)).bind fun t551 => (if t551 = 9218868437227405312 then (some (nbZ Z, Go.bits .or .u8 16 4, true, 0)) else (if x = true then (some (nbZ Z, Go.bits .or .u8 16 8, true, 0)) else (some (nbZ Z, 16, true, 0)))) := by rw [round_Decide.j3]
 rw [u, Nb.abs_eq (nb_w Z), bind_s, show Go.bits .or .u8 16 8 = 24 by decide, show Go.bits .or .u8 16 4 = 20 by decide]
 unfold decFl
 by_cases c : mbA KK Z.natAbs = INn
 ·rw [if_pos ((am_inf Z).2 c), if_pos c]
 rw [if_neg (fun d => c ((am_inf Z).1 d)), if_neg c]
 by_cases d : tyA KK Z.natAbs
 ·rw [if_pos (hx.2 d), if_pos d]
 rw [if_neg (fun c => d (hx.1 c)), if_neg d]
theorem dec_j2 (k : Nat) (x y : Bool) (Z : Int) (fl : Int) (hx : x = true ↔ tyA KK Z.natAbs) : round_Decide.j2 (k + 2) x y (nbZ Z) fl = some (if y = true then (0, 0, false, 0) else (nbZ Z, decFl Z, true, 0)) := by
 have u : round_Decide.j2 (k + 2) x y (nbZ Z) fl = if y = true then (some (0, 0, false, 0)) else (round_Decide.j3 (k + 1) x (nbZ Z) fl) := by rw [round_Decide.j2]
 rw [u, dec_j3 k x Z fl hx]
 split <;> rfl
theorem dec_j1 (k : Nat) (x : Bool) (Z0 : Int) (f0 f1 : Int) (s1 : Bool) (l1 : List Int) (e1 : Int) (h : fits (val l1) e1 = true) (hx : x = true ↔ tyA KK Z0.natAbs) (hk : 100000000000000000 ≤ k) :
  round_Decide.j1 (k + 3) x (nbZ Z0) f0 (nbZ (vl s1 l1 e1)) f1 (ofN (val l1)) e1 = some (decS Z0 (vl s1 l1 e1)) := by
 have f := fits_iff.1 h
 have u : round_Decide.j1 (k + 3) x (nbZ Z0) f0 (nbZ (vl s1 l1 e1)) f1 (ofN (val l1)) e1 = if nbZ Z0 = nbZ (vl s1 l1 e1) then ((round_amount_tiny.f (k + 2) (ofN (val l1)) e1).bind fun t548 => (if t548 = true then (round_Decide.j2 (k + 2) x (x != true) (nbZ Z0) f0) else ((round_amount_zero.f (ofN (val l1)) e1).bind fun t549 => (round_Decide.j2 (k + 2) x (x != t549) (nbZ Z0) f0)))) else (round_Decide.j2 (k + 2) x true (nbZ Z0) f0) := by rw [round_Decide.j1]
 have tt := tz_ty (val l1) (e := e1) (low_le (by omega))
 rw [u, tiny_eq (val l1) e1 (k + 2) f.1 (by omega) (by omega) (by omega), bind_s, zero_eq, bind_s, dec_j2 k x _ Z0 f0 hx, dec_j2 k x _ Z0 f0 hx, dec_j2 k x _ Z0 f0 hx]
 unfold decS isDec
 rw [vl_abs]
 by_cases c : nbZ Z0 = nbZ (vl s1 l1 e1)
 ·rw [if_pos c]
  have g : (if tinyI (val l1) e1 = true then some (if (x != true) = true then ((0 : Int), (0 : Int), false, (0 : Int)) else (nbZ Z0, decFl Z0, true, 0)) else some (if (x != decide (val l1 = 0)) = true then (0, 0, false, 0) else (nbZ Z0, decFl Z0, true, 0))) = some (if (x != (tinyI (val l1) e1 || decide (val l1 = 0))) = true then (0, 0, false, 0) else (nbZ Z0, decFl Z0, true, 0)) := by
   cases tinyI (val l1) e1
   ·rw [if_neg (by decide), Bool.false_or]
   rw [if_pos rfl, Bool.true_or]
  rw [g]
  generalize (tinyI (val l1) e1 || decide (val l1 = 0)) = y at *
  by_cases d : x = y
  ·rw [if_neg (by rw [d]; simp), if_pos ⟨c, by rw [← hx, ← tt, d]⟩]
  rw [if_pos (by simpa using d), if_neg (fun h => d (Bool.eq_iff_iff.2 (hx.trans (h.2.trans tt.symm))))]
 rw [if_neg c, if_pos rfl, if_neg (fun h => c h.1)]
open Classical in
theorem Decide_eq (s0 s1 : Bool) (l0 l1 : List Int) (e0 e1 : Int) (k : Nat) (w0 : Wl l0) (w1 : Wl l1) (hk : 300000000000000000 ≤ k) : round_Decide.f k s0 l0 e0 s1 l1 e1 = some (if okI s0 l0 e0 s1 l1 e1 then decS (vl s0 l0 e0) (vl s1 l1 e1) else (0, 0, false, 2)) := by
 unfold round_Decide.f
 rw [fault_eq s0 s1 l0 l1 e0 e1 k w0 w1 (by omega), bind_s]
 by_cases c : okI s0 l0 e0 s1 l1 e1
 ·rw [if_pos c, if_pos c, if_pos rfl]
  obtain ⟨k, rfl⟩ : ∃ j, k = j + 4 := ⟨k - 4, by omega⟩
  have u : round_Decide.j0 (k + 4) s0 l0 e0 s1 l1 e1 = (round_near.f (k + 3) s0 l0 e0).bind fun bt530 => ((round_near.f (k + 3) s1 l1 e1).bind fun bt532 => ((round_of.f (k + 3) s0 l0 e0).bind fun bt536 => ((round_of.f (k + 3) s1 l1 e1).bind fun bt540 => ((round_amount_tiny.f (k + 3) bt536.1 bt536.2).bind fun t546 => (if t546 = true then (round_Decide.j1 (k + 3) true bt530.1 bt530.2 bt532.1 bt532.2 bt540.1 bt540.2) else ((round_amount_zero.f bt536.1 bt536.2).bind fun t547 => (round_Decide.j1 (k + 3) t547 bt530.1 bt530.2 bt532.1 bt532.2 bt540.1 bt540.2))))))) := by rw [round_Decide.j0]
  have f0 := fits_iff.1 c.1
  have tt := tz_ty (val l0) (e := e0) (low_le (by omega))
  rw [u, near_eq s0 l0 e0 (k + 3) w0 c.1 (by omega), bind_s, near_eq s1 l1 e1 (k + 3) w1 c.2.1 (by omega), bind_s, of_eq s0 l0 e0 (k + 3) w0 c.1 (by omega), bind_s, of_eq s1 l1 e1 (k + 3) w1 c.2.1 (by omega), bind_s]
  show (round_amount_tiny.f (k + 3) (ofN (val l0)) e0).bind _ = _
  rw [tiny_eq (val l0) e0 (k + 3) f0.1 (by omega) (by omega) (by omega), bind_s]
  have J := fun x hx => dec_j1 k x (vl s0 l0 e0) (flA (vl s0 l0 e0).natAbs) (flA (vl s1 l1 e1).natAbs) s1 l1 e1 c.2.1 hx (by omega)
  rw [vl_abs] at J
  by_cases d : tinyI (val l0) e0 = true
  ·rw [if_pos d]
   rw [vl_abs]
   exact J true ⟨fun _ => tt.1 (by rw [d, Bool.true_or]), fun _ => rfl⟩
  rw [if_neg d]
  show (round_amount_zero.f (ofN (val l0)) e0).bind _ = _
  rw [zero_eq, bind_s, vl_abs]
  refine J _ ?_
  rw [← tt, Bool.eq_false_iff.2 d, Bool.false_or]
 rw [if_neg c, if_neg c, if_neg (by decide)]
end Go.Proofs.YtnjfckadjklmfaaDoor.Nf

namespace Go.Proofs.YtnjfckadjklmfaaDoor.Nf
open Go.RowKit Go.Proofs.YtnjfckadjklmfaaDoor.PAll Go.Proofs.YtnjfckadjklmfaaDoorW.PrintWords Go.Proofs.YtnjfckadjklmfaaDoorW.PrintLast Go.Proofs.YtnjfckadjklmfaaDoorW.PrintMore Go.Proofs.YtnjfckadjklmfaaDoor.Nm
set_option linter.unusedVariables false
set_option linter.unusedSimpArgs false
theorem flA_I (v : Nat) {e : Int} (h : lowE ≤ e) : flA (am v e) = if lsI v e = true then (if mbI v e = INFc then 20 else if tinyI v e = true then 24 else 16) else 0 := by
 have ls := ls_eq v h
 have ty := ty_eq v h
 have mi : mbI v e = INFc ↔ mbA KK (am v e) = INn := mb_inf h
 have am0 : v ≠ 0 ↔ am v e ≠ 0 := ⟨fun z => am_pos z e, fun z c => z (by rw [c, am_zero])⟩
 unfold flA
 by_cases c1 : lsI v e = true
 ·rw [if_pos c1, if_pos (ls.1 c1)]
  by_cases c2 : mbI v e = INFc
  ·rw [if_pos c2, if_pos (mi.1 c2)]
  rw [if_neg c2, if_neg (fun c => c2 (mi.2 c))]
  by_cases c3 : tinyI v e = true
  ·rw [if_pos c3, if_pos ⟨am0.1 (ty.1 c3).1, (ty.1 c3).2⟩]
  rw [if_neg c3, if_neg (fun c => c3 (ty.2 ⟨am0.2 c.1, c.2⟩))]
 rw [if_neg c1, if_neg (fun c => c1 (ls.2 c))]
theorem wl_one {v : Int} (h0 : 0 ≤ v) (h1 : v < 18446744073709551616) : Wl [v] := ⟨ws_one h0 h1, len_one v⟩
theorem near_small (v : Nat) (e : Int) (k : Nat) (hv : v < 18446744073709551616) (e0 : -32768 ≤ e) (e1 : e ≤ 32768) (hk : 100000000000000000 ≤ k) : round_Near.f k false [(v : Int)] e = some (mbI v e, (if lsI v e = true then (if mbI v e = INFc then 20 else if tinyI v e = true then 24 else 16) else 0), 0) := by
 have le := low_le (e := e) (by omega)
 have val1 : val [(v : Int)] = v := by rw [val_one, Int.toNat_natCast]
 rw [Near_eq false [(v : Int)] e k (wl_one (by omega) (by omega)) hk]
 unfold nearS
 rw [val1, if_pos (fits_iff.2 ⟨word_big hv, e0, e1⟩), nbZ_vl, vl_abs, val1, flA_I v le, mb_eq v le, Bool.false_and]
 show some (((mbA KK (am v e) : Nat) : Int) + 0, _, _) = _
 rw [Int.add_zero]
theorem bl_1 : bl 1 = 1 := bl_unique (m := 0) (by decide) (by decide)
theorem bl_3 : bl 3 = 2 := bl_unique (m := 1) (by decide) (by decide)
theorem bl_a : bl 1152921504606846977 = 61 := bl_unique (m := 60) (by decide) (by decide)
theorem bl_b : bl 36028797018963969 = 56 := bl_unique (m := 55) (by decide) (by decide)
theorem l1 (k : Nat) (hk : 100000000000000000 ≤ k) : round_Near.f k false [1] (-1075) = some (0, 24, 0) := by
 have := near_small 1 (-1075) k (by decide) (by decide) (by decide) hk
 refine this.trans ?_
 unfold lsI tinyI mbI codeI expI topI
 rw [bl_1]
 decide
theorem l2 (k : Nat) (hk : 100000000000000000 ≤ k) : round_Near.f k false [1] 1024 = some (9218868437227405312, 20, 0) := by
 have := near_small 1 1024 k (by decide) (by decide) (by decide) hk
 refine this.trans ?_
 unfold lsI tinyI mbI codeI expI topI
 rw [bl_1]
 decide
theorem l3 (k : Nat) (hk : 100000000000000000 ≤ k) : round_Near.f k false [3] (-1) = some (4609434218613702656, 0, 0) := by
 have := near_small 3 (-1) k (by decide) (by decide) (by decide) hk
 refine this.trans ?_
 unfold lsI tinyI mbI codeI expI topI
 rw [bl_3]
 decide
theorem mb_a : mbI 1152921504606846977 (-60) = 4607182418800017408 ∧ tinyI 1152921504606846977 (-60) = false := by
 unfold tinyI mbI codeI expI topI
 rw [bl_a]
 decide
theorem mb_b : mbI 36028797018963969 (-55) = 4607182418800017408 ∧ tinyI 36028797018963969 (-55) = false := by
 unfold tinyI mbI codeI expI topI
 rw [bl_b]
 decide
theorem am_ab : am 1152921504606846977 (-60) ≤ am 36028797018963969 (-55) := by
 rw [am_shl (v := 36028797018963969) (e := -55) (E := -60) (by decide) (by decide)]
 exact Nat.mul_le_mul_right _ (by decide)
theorem l4 (k : Nat) (hk : 300000000000000000 ≤ k) : round_Decide.f k false [1152921504606846977] (-60) false [36028797018963969] (-55) = some (4607182418800017408, 16, true, 0) := by
 have va : val [(1152921504606846977 : Int)] = 1152921504606846977 := val_one _
 have vb : val [(36028797018963969 : Int)] = 36028797018963969 := val_one _
 have la : lowE ≤ -60 := by decide
 have lb : lowE ≤ -55 := by decide
 rw [Decide_eq false false _ _ _ _ k (wl_one (by decide) (by decide)) (wl_one (by decide) (by decide)) hk]
 have za : vl false [1152921504606846977] (-60) = (am 1152921504606846977 (-60) : Nat) := by rw [vl_sg, va]; rfl
 have zb : vl false [36028797018963969] (-55) = (am 36028797018963969 (-55) : Nat) := by rw [vl_sg, vb]; rfl
 have na : nbZ (am 1152921504606846977 (-60) : Nat) = 4607182418800017408 := by
  rw [← za, nbZ_vl, va, ← mb_eq _ la, mb_a.1]; decide
 have nb : nbZ (am 36028797018963969 (-55) : Nat) = 4607182418800017408 := by
  rw [← zb, nbZ_vl, vb, ← mb_eq _ lb, mb_b.1]; decide
 have ta : ¬ tyA KK (am 1152921504606846977 (-60)) := fun c => by
  have := (ty_eq 1152921504606846977 la).2 ⟨by decide, c⟩
  rw [mb_a.2] at this; cases this
 have tb : ¬ tyA KK (am 36028797018963969 (-55)) := fun c => by
  have := (ty_eq 36028797018963969 lb).2 ⟨by decide, c⟩
  rw [mb_b.2] at this; cases this
 have ok : okI false [1152921504606846977] (-60) false [36028797018963969] (-55) := by
  refine ⟨?_, ?_, ?_⟩
  ·rw [va]; exact fits_iff.2 ⟨word_big (by decide), by decide, by decide⟩
  ·rw [vb]; exact fits_iff.2 ⟨word_big (by decide), by decide, by decide⟩
  rw [za, zb]; exact Int.ofNat_le.2 am_ab
 have ia : mbA KK (am 1152921504606846977 (-60)) ≠ INn := fun c => by
  have := mb_eq 1152921504606846977 la
  rw [mb_a.1, c] at this
  exact absurd this (by decide)
 rw [if_pos ok, za, zb]
 unfold decS isDec decFl
 rw [Int.natAbs_natCast, Int.natAbs_natCast, if_pos ⟨na.trans nb.symm, fun c => absurd c ta, fun c => absurd c tb⟩, na, if_neg ia, if_neg ta]
theorem lives_eq (k : Nat) (hk : 300000000000000000 ≤ k) : ulplaw05_lives.f k = some true := by
 unfold ulplaw05_lives.f
 show ((round_Near.f k false [1] (-1075)).bind _) = _
 rw [l1 k (by omega), bind_s]
 show ((round_Near.f k false [1] 1024).bind _) = _
 rw [l2 k (by omega), bind_s, l3 k (by omega), bind_s, l4 k hk, bind_s]
 rfl
end Go.Proofs.YtnjfckadjklmfaaDoor.Nf

namespace Go.Proofs.YtnjfckadjklmfaaDoor.Nf
open Go.RowKit Go.Proofs.YtnjfckadjklmfaaDoor.PAll Go.Proofs.YtnjfckadjklmfaaDoorW.PrintWords Go.Proofs.YtnjfckadjklmfaaDoorW.PrintLast Go.Proofs.YtnjfckadjklmfaaDoorW.PrintMore Go.Proofs.YtnjfckadjklmfaaDoor.Nm
set_option linter.unusedVariables false
set_option linter.unusedSimpArgs false
theorem nb_cases (Z : Int) : (Z < 0 ∧ nbZ Z = ((mbA KK Z.natAbs : Nat) : Int) + 9223372036854775808) ∨ (0 ≤ Z ∧ nbZ Z = ((mbA KK Z.natAbs : Nat) : Int)) := by
 unfold nbZ sX
 by_cases h : Z < 0
 ·rw [if_pos (decide_eq_true h)]; exact .inl ⟨h, rfl⟩
 rw [if_neg (by rw [decide_eq_true_iff]; exact h), Int.add_zero]; exact .inr ⟨by omega, rfl⟩
theorem mb_top (A : Nat) : ((mbA KK A : Nat) : Int) ≤ 9218868437227405312 := by
 have := mbA_le KK A
 unfold INn at this; omega
theorem pl_nb (Z : Int) : Nb.pl (nbZ Z) = sg (decide (Z < 0)) (mbA KK Z.natAbs) := by
 have b := mb_top Z.natAbs
 unfold Nb.pl sg
 rcases nb_cases Z with ⟨h, e⟩ | ⟨h, e⟩
 ·rw [e, if_neg (by omega), if_pos (decide_eq_true h)]; omega
 rw [e, if_pos (by omega), if_neg (by rw [decide_eq_true_iff]; omega)]
theorem sg_mono {Z0 Z1 : Int} (f : Nat → Nat) (hf : ∀ {a b}, a ≤ b → f a ≤ f b) (h : Z0 ≤ Z1) : sg (decide (Z0 < 0)) (f Z0.natAbs) ≤ sg (decide (Z1 < 0)) (f Z1.natAbs) := by
 unfold sg
 by_cases a : Z0 < 0
 ·rw [if_pos (decide_eq_true a)]
  by_cases b : Z1 < 0
  ·rw [if_pos (decide_eq_true b)]
   have := hf (show Z1.natAbs ≤ Z0.natAbs by omega)
   omega
  rw [if_neg (by rw [decide_eq_true_iff]; exact b)]; omega
 rw [if_neg (by rw [decide_eq_true_iff]; exact a), if_neg (by rw [decide_eq_true_iff]; omega)]
 have := hf (show Z0.natAbs ≤ Z1.natAbs by omega)
 omega
theorem nb_mono {Z0 Z1 : Int} (h : Z0 ≤ Z1) : Nb.pl (nbZ Z0) ≤ Nb.pl (nbZ Z1) := by
 rw [pl_nb, pl_nb]
 exact sg_mono (mbA KK) (fun h => mbA_mono (by have := KK_2; omega) h) h
theorem less_nb {Z0 Z1 : Int} (h : Z0 ≤ Z1) : bits_Less.f (nbZ Z1) (nbZ Z0) = some false := by
 rw [Nb.less_eq (nb_w _) (nb_w _), decide_eq_false]
 intro c
 have := nb_mono h
 have := c.2.2
 omega
theorem ng_nb {Z : Int} (h : Z ≠ 0) : Nb.ng (nbZ Z) = nbZ (-Z) := by
 have b := mb_top Z.natAbs
 have e : (-Z).natAbs = Z.natAbs := Int.natAbs_neg Z
 unfold Nb.ng
 rcases nb_cases Z with ⟨a, c⟩ | ⟨a, c⟩ <;> rcases nb_cases (-Z) with ⟨a', c'⟩ | ⟨a', c'⟩ <;> rw [e] at c'
 ·omega
 ·rw [c, c', if_neg (by omega)]; omega
 ·rw [c, c', if_pos (by omega)]
 omega
theorem nb_zero : nbZ 0 = 0 := by
 unfold nbZ
 rw [show (0 : Int).natAbs = 0 from rfl, mbA_zero]; decide
end Go.Proofs.YtnjfckadjklmfaaDoor.Nf

namespace Go.Proofs.YtnjfckadjklmfaaDoor.Pure
open Go.RowKit Go.Proofs.YtnjfckadjklmfaaDoor.PAll Go.Proofs.YtnjfckadjklmfaaDoorW.PrintWords Go.Proofs.YtnjfckadjklmfaaDoorW.PrintLast Go.Proofs.YtnjfckadjklmfaaDoorW.PrintMore
set_option linter.unusedVariables false
set_option linter.unusedSimpArgs false
open Go.Proofs.YtnjfckadjklmfaaDoor.Nm Go.Proofs.YtnjfckadjklmfaaDoor.Nf
theorem nearS_ok (s : Bool) (l : List Int) (e : Int) (h : fits (val l) e = true) : nearS s l e = (nbZ (vl s l e), flA (vl s l e).natAbs, 0) := by
 unfold nearS; exact if_pos h
theorem nearS_no (s : Bool) (l : List Int) (e : Int) (h : ¬ fits (val l) e = true) : nearS s l e = (0, 0, 2) := by
 unfold nearS; exact if_neg h
theorem RoundRises (s0 : Bool) (l0 : List Int) (e0 : Int) (s1 : Bool) (l1 : List Int) (e1 : Int) (n0 : l0.length * 8 ≤ 140737488351232) (w0 : ∀ x ∈ l0, (Lit.int .u64 x).wf = true) (_ : (Lit.int .i64 e0).wf = true) (n1 : l1.length * 8 ≤ 140737488351232) (w1 : ∀ x ∈ l1, (Lit.int .u64 x).wf = true) (_ : (Lit.int .i64 e1).wf = true) : ∃ k, ulplaw05_RoundRises.f k s0 l0 e0 s1 l1 e1 = some true := by
 have h0 : Wl l0 := ⟨ws_wf w0, by omega⟩
 have h1 : Wl l1 := ⟨ws_wf w1, by omega⟩
 obtain ⟨k, hk⟩ : ∃ k, k = 300000000000000000 := ⟨_, rfl⟩
 have hk0 : 300000000000000000 ≤ k := by omega
 clear hk
 refine ⟨k + 2, ?_⟩
 unfold ulplaw05_RoundRises.f
 rw [lives_eq (k + 2) (by omega), bind_s, if_pos rfl, Near_eq s0 l0 e0 (k + 2) h0 (by omega), bind_s, Near_eq s1 l1 e1 (k + 2) h1 (by omega), bind_s]
 have jt : ∀ a b c d e f g h i j, ulplaw05_RoundRises.j0 (k + 2) true a b c d e f g h i j = some true := fun a b c d e f g h i j => by rw [ulplaw05_RoundRises.j0]; exact if_pos rfl
 by_cases f0 : fits (val l0) e0 = true
 ·rw [nearS_ok s0 l0 e0 f0, if_pos rfl]
  by_cases f1 : fits (val l1) e1 = true
  ·rw [nearS_ok s1 l1 e1 f1]
   have g0 := fits_iff.1 f0
   have Z0 : lowE ≤ e0 := low_le (by omega)
   show ulplaw05_RoundRises.j0 (k + 2) false s0 l0 e0 s1 l1 e1 (nbZ (vl s0 l0 e0)) (flA (vl s0 l0 e0).natAbs) (nbZ (vl s1 l1 e1)) (flA (vl s1 l1 e1).natAbs) = some true
   have J : ulplaw05_RoundRises.j1 (k + 1) false s0 l0 e0 (nbZ (vl s0 l0 e0)) (flA (vl s0 l0 e0).natAbs) = some true := by
    rw [ulplaw05_RoundRises.j1, if_neg (by decide), dNeg_eq s0 l0 e0 k h0 (by omega), bind_s]
    unfold canonS
    rw [if_pos f0]
    by_cases r : (roomS (cf (!s0) (val l0) e0)).2.2.2 = 0
    ·obtain ⟨r1, r2⟩ := room_ok r
     have wn : Wl (cf (!s0) (val l0) e0).2.1 := wl_cf _ _ (rs_len (rs_fits h0.1 h0.2 f0))
     have vn : vl (cf (!s0) (val l0) e0).1 (cf (!s0) (val l0) e0).2.1 (cf (!s0) (val l0) e0).2.2 = - vl s0 l0 e0 := by
      rw [vl_cf Z0, sg_neg, Vz_neg]; rfl
     rw [if_pos r, r2]
     show (round_Near.f k (cf (!s0) (val l0) e0).1 (cf (!s0) (val l0) e0).2.1 (cf (!s0) (val l0) e0).2.2).bind _ = _
     rw [Near_eq _ _ _ k wn (by omega), bind_s, nearS_ok _ _ _ r1, vn, if_pos rfl, Int.natAbs_neg, if_pos rfl, rZero_eq s0 l0 e0 k h0.1 h0.2 (by omega), bind_s]
     by_cases z : val l0 = 0
     ·have : vl s0 l0 e0 = 0 := by rw [vl_sg, z, am_zero, sg_zero]
      rw [if_pos (decide_eq_true z), this]
      exact if_pos nb_zero
     have : vl s0 l0 e0 ≠ 0 := fun c => by
      have := vl_abs s0 l0 e0
      rw [c] at this
      exact am_pos z e0 this.symm
     rw [if_neg (by rw [decide_eq_true_iff]; exact z), Nb.neg_eq (nb_w _), bind_s, ng_nb this, beq_self_eq_true]
    rw [if_neg r]
   rw [ulplaw05_RoundRises.j0, if_neg (by decide), rOrder_eq s0 s1 l0 l1 e0 e1 (k + 1) (rs_fits h0.1 h0.2 f0).t (rs_fits h1.1 h1.2 f1) (by omega), bind_s]
   by_cases c : vl s0 l0 e0 ≤ vl s1 l1 e1
   ·rw [if_pos ((cmpZ_le _ _).2 c), less_nb c, bind_s]
    exact J
   rw [if_neg (fun d => c ((cmpZ_le _ _).1 d))]
   exact J
  rw [nearS_no s1 l1 e1 f1]
  exact jt _ _ _ _ _ _ _ _ _ _
 rw [nearS_no s0 l0 e0 f0, if_neg (by decide)]
 exact jt _ _ _ _ _ _ _ _ _ _
end Go.Proofs.YtnjfckadjklmfaaDoor.Pure
