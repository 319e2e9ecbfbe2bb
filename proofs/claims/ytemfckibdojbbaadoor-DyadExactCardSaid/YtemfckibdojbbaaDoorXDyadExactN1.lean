/- Plain part. -/
import Derived.Test.YtemfckibdojbbaaDoorXDyadExactN0
import Derived.Test.YtemfckibdojbbaaDoorXDyadExactP3
import Derived.Test.YtemfckibdojbbaaDoorXDyadExactP4
import Derived.Test.YtemfckibdojbbaaDoorXDyadExactP5
import Derived.Test.YtemfckibdojbbaaDoorXDyadExactP0
import Derived.Test.YtemfckibdojbbaaDoorXDyadExactP1
import Derived.Test.YtemfckibdojbbaaDoorXDyadExactP7
import Derived.Test.YtemfckibdojbbaaDoorXDyadExactP10
import Derived.Test.YtemfckibdojbbaaDoorXDyadExactP11
import Derived.Test.YtemfckibdojbbaaDoorXDyadExactP2
import Derived.Test.YtemfckibdojbbaaDoorXDyadExactP12
import Derived.Test.YtemfckibdojbbaaDoorXDyadExactP6
import Derived.Test.YtemfckibdojbbaaDoorXDyadExactP13
import Derived.Test.YtemfckibdojbbaaDoorXDyadExactP9
import Derived.Test.YtemfckibdojbbaaDoorXDyadExactP14
import Derived.Test.YtemfckibdojbbaaDoorXDyadExactP15
import Derived.Laws.StructEq
namespace Go.Proofs.YtemfckibdojbbaaDoor.Nf
open Go.RowKit Go.Proofs.YtemfckibdojbbaaDoor.PAll Go.Proofs.YtemfckibdojbbaaDoorW.PrintWords Go.Proofs.YtemfckibdojbbaaDoorW.PrintLast Go.Proofs.YtemfckibdojbbaaDoorW.PrintMore Go.Proofs.YtemfckibdojbbaaDoor.Nm
set_option linter.unusedVariables false
set_option linter.unusedSimpArgs false
def cmpZ (x y : Int) : Int := if x < y then -1 else if x = y then 0 else 1
def sI (s : Bool) (n : Nat) : Int := if n = 0 then 0 else if s = true then -1 else 1
theorem Sign_eq (s : Bool) (l : List Int) (e : Int) (k : Nat) (hw : Ws l) (hl : l.length < 17592186044000) (hk : 100000000000000000 ≤ k) : raw_Sign.f k s l e = some (sI s (val l)) := by
 unfold raw_Sign.f sI
 rw [Zero_eq s l e k hw hl hk, bind_s]
 by_cases h : val l = 0
 ·rw [if_pos (decide_eq_true h), if_pos h]
 rw [if_neg (by rw [decide_eq_true_iff]; exact h), if_neg h]; split <;> rfl
theorem Top_eq (s : Bool) (l : List Int) (e : Int) (k : Nat) (hw : Ws l) (hl : l.length < 17592186044000) (h0 : -1000000000000000 ≤ e) (h1 : e ≤ 1000000000000000) (hk : 100000000000000000 ≤ k) : raw_Top.f k s l e = some (e + (bl (val l) : Int) - 1) := by
 unfold raw_Top.f
 have hn : (ofN (val l)).length ≤ l.length := (ofN_len (val l) l.length).2 (val_lt hw)
 have hb := bl_len hn
 rw [lLen_eq l k hw hl (by omega), bind_s, wrapS (x := e + _) (by omega) (by omega), wrapS (by omega) (by omega)]
def am (n : Nat) (e : Int) : Nat := n * 2 ^ (e - lowE).toNat
theorem Vz_am (s : Bool) (n : Nat) (e : Int) : Vz (sg s n) e = sg s (am n e) := by unfold Vz am; rw [sg_shl]
theorem am_pos {n : Nat} (h : n ≠ 0) (e : Int) : am n e ≠ 0 := Nat.ne_of_gt (Nat.mul_pos (Nat.pos_of_ne_zero h) (Nat.pow_pos (by decide)))
theorem am_bl {n : Nat} (h : n ≠ 0) {e : Int} (g : lowE ≤ e) : (bl (am n e) : Int) = bl n + (e - lowE) := by
 unfold am; rw [bl_shl h]; omega
theorem am_lt {n m : Nat} {e f : Int} (hn : n ≠ 0) (hm : m ≠ 0) (he : lowE ≤ e) (hf : lowE ≤ f) (h : e + (bl n : Int) < f + (bl m : Int)) : am n e < am m f := by
 refine Classical.byContradiction fun g => ?_
 have := bl_mono (Nat.le_of_not_lt g)
 have a := am_bl hn he
 have b := am_bl hm hf
 omega
theorem am_parts {n : Nat} {e : Int} (h : lowE ≤ e) : am (od n) (e + (tz n : Int)) = am n e := by
 have := vl_parts h false (n := n)
 rw [Vz_am, Vz_am] at this
 have := congrArg Int.natAbs this
 rwa [sg_abs, sg_abs] at this
theorem cmpZ_sg (s : Bool) (x y : Nat) : cmpZ (sg s x) (sg s y) = if s = true then - cmpI x y else cmpI x y := by
 unfold cmpZ cmpI
 cases s
 ·simp only [sg, Bool.false_eq_true, if_false]
  split <;> split <;> (try split) <;> (try split) <;> omega
 simp only [sg, if_true]
 split <;> (try split) <;> (try split) <;> (try split) <;> omega
theorem cmpI_scale {x y c : Nat} (hc : 0 < c) : cmpI (x * c) (y * c) = cmpI x y := by
 unfold cmpI
 have a : x * c < y * c ↔ x < y := Nat.mul_lt_mul_right hc
 have b : x * c = y * c ↔ x = y := Nat.mul_left_inj (Nat.ne_of_gt hc)
 by_cases h : x < y
 ·rw [if_pos h, if_pos (a.2 h)]
 rw [if_neg h, if_neg (fun c => h (a.1 c))]
 by_cases g : x = y
 ·rw [if_pos g, if_pos (b.2 g)]
 rw [if_neg g, if_neg (fun c => g (b.1 c))]
theorem cmp_signs (s1 s2 : Bool) (N M : Nat) : (sI s1 N < sI s2 M → cmpZ (sg s1 N) (sg s2 M) = -1) ∧ (sI s1 N > sI s2 M → cmpZ (sg s1 N) (sg s2 M) = 1) ∧ (sI s1 N = 0 → sI s2 M = 0 → cmpZ (sg s1 N) (sg s2 M) = 0) := by
 unfold sI cmpZ sg
 refine ⟨?_, ?_, ?_⟩
 all_goals
  cases s1 <;> cases s2 <;> simp only [Bool.false_eq_true, if_false, if_true] <;> intros <;> (repeat' split at *) <;> omega
theorem sI_same {s1 s2 : Bool} {N M : Nat} (h : sI s1 N = sI s2 M) (h0 : sI s1 N ≠ 0) : N ≠ 0 ∧ M ≠ 0 ∧ s1 = s2 ∧ sI s1 N = if s1 = true then -1 else 1 := by
 unfold sI at *
 by_cases a : N = 0
 ·simp [a] at h0
 by_cases b : M = 0
 ·simp [a, b] at h; cases s1 <;> simp at h
 cases s1 <;> cases s2 <;> simp_all
theorem sI_am (s : Bool) (n : Nat) (e : Int) : sI s (am n e) = sI s n := by
 unfold sI
 by_cases h : n = 0
 ·subst h; unfold am; rw [Nat.zero_mul]
 rw [if_neg h, if_neg (am_pos h e)]
theorem wrap_small {x : Int} (h : x = -1 ∨ x = 0 ∨ x = 1) : wrap64 x = x := wrapS (by omega) (by omega)
theorem cmpI_small (x y : Nat) : cmpI x y = -1 ∨ cmpI x y = 0 ∨ cmpI x y = 1 := by unfold cmpI; split <;> (try split) <;> simp
theorem cmpI_gt {x y : Nat} (h : y < x) : cmpI x y = 1 := by unfold cmpI; rw [if_neg (Nat.not_lt.2 (Nat.le_of_lt h)), if_neg (Nat.ne_of_gt h)]
theorem cmpI_lt {x y : Nat} (h : x < y) : cmpI x y = -1 := by unfold cmpI; rw [if_pos h]
theorem Cmp_eq' (s1 s2 : Bool) (l1 l2 : List Int) (e1 e2 : Int) (k : Nat) (h1 : Rt l1 e1) (h2 : Rt l2 e2) (hk : 100000000000000000 ≤ k) : raw_Cmp.f k s1 l1 e1 s2 l2 e2 = some (cmpZ (vl s1 l1 e1) (vl s2 l2 e2)) := by
 unfold raw_Cmp.f
 have b1 := h1.lowE
 have b2 := h2.lowE
 have hv1 := h1.sm
 have hv2 := h2.sm
 have d1 := h1.lo; have d2 := h1.hi; have d3 := h2.lo; have d4 := h2.hi
 rw [Sign_eq s1 l1 e1 k h1.ws h1.len hk, bind_s, Sign_eq s2 l2 e2 k h2.ws h2.len hk, bind_s, Top_eq s1 l1 e1 k h1.ws h1.len (by omega) (by omega) hk, Top_eq s2 l2 e2 k h2.ws h2.len (by omega) (by omega) hk, One_eq s1 l1 e1 k h1 hk, One_eq s2 l2 e2 k h2 hk]
 unfold vl
 generalize val l1 = n1 at *
 generalize val l2 = n2 at *
 rw [Vz_am, Vz_am]
 obtain ⟨c1, c2, c3⟩ := cmp_signs s1 s2 (am n1 e1) (am n2 e2)
 rw [sI_am, sI_am] at c1 c2 c3
 by_cases q1 : sI s1 n1 < sI s2 n2
 ·rw [if_pos q1, c1 q1]
 rw [if_neg q1]
 by_cases q2 : sI s1 n1 > sI s2 n2
 ·rw [if_pos q2, c2 q2]
 rw [if_neg q2]
 have q3 : sI s1 n1 = sI s2 n2 := by omega
 by_cases q0 : sI s1 n1 = 0
 ·rw [if_pos q0, c3 q0 (q3 ▸ q0)]
 rw [if_neg q0, bind_s, bind_s]
 obtain ⟨z1, z2, rfl, hs⟩ := sI_same q3 q0
 rw [hs, cmpZ_sg]
 by_cases t : e1 + (bl n1 : Int) - 1 = e2 + (bl n2 : Int) - 1
 ·rw [if_pos t, bind_s, bind_s, cf_ne z1, cf_ne z2]
  have t1 := tz_small z1 hv1
  have t2 := tz_small z2 hv2
  have p1 := am_parts b1 (n := n1)
  have p2 := am_parts b2 (n := n2)
  have r1 := len_od n1
  have r2 := len_od n2
  rw [← p1, ← p2]
  have g1 : -2000000 ≤ e1 + (tz n1 : Int) ∧ e1 + (tz n1 : Int) ≤ 2000000 := by omega
  have g2 : -2000000 ≤ e2 + (tz n2 : Int) ∧ e2 + (tz n2 : Int) ≤ 2000000 := by omega
  show (raw_amounts.f k s1 (ofN (od n1)) (e1 + (tz n1 : Int)) s1 (ofN (od n2)) (e2 + (tz n2 : Int))).bind _ = _
  generalize od n1 = x at *
  generalize od n2 = y at *
  generalize e1 + (tz n1 : Int) = a1 at *
  generalize e2 + (tz n2 : Int) = a2 at *
  obtain ⟨E, hE⟩ : ∃ E, E = min a1 a2 := ⟨_, rfl⟩
  rw [amounts_eq s1 s1 x y a1 a2 E k hE (by omega) (by omega) g1.1 g1.2 g2.1 g2.2 (by omega), bind_s]
  have lE : lowE ≤ E := by have := g1.1; have := g2.1; unfold lowE; omega
  have w1 : E ≤ a1 := by omega
  have w2 : E ≤ a2 := by omega
  have y1 : (a1 - E).toNat ≤ 4000000 := by omega
  have y2 : (a2 - E).toNat ≤ 4000000 := by omega
  have L1 := len_shl (Nat.le_trans r1 hv1) (a1 - E).toNat
  have L2 := len_shl (Nat.le_trans r2 hv2) (a2 - E).toNat
  have A1 : am x a1 = x * 2 ^ (a1 - E).toNat * 2 ^ (E - lowE).toNat := by
   unfold am; rw [Nat.mul_assoc, ← Nat.pow_add]; congr 2; omega
  have A2 : am y a2 = y * 2 ^ (a2 - E).toNat * 2 ^ (E - lowE).toNat := by
   unfold am; rw [Nat.mul_assoc, ← Nat.pow_add]; congr 2; omega
  rw [A1, A2, cmpI_scale (Nat.pow_pos (by decide))]
  have M1 : (ofN (x * 2 ^ (a1 - E).toNat)).length ≤ 100000 := by omega
  have M2 : (ofN (y * 2 ^ (a2 - E).toNat)).length ≤ 100000 := by omega
  generalize x * 2 ^ (a1 - E).toNat = X at *
  generalize y * 2 ^ (a2 - E).toNat = Y at *
  rw [lCmp_eq _ _ k (ws_ofN X) (ws_ofN Y) (by omega) (by omega) (by omega), bind_s, val_ofN, val_ofN]
  have := cmpI_small X Y
  cases s1
  ·simp only [Bool.false_eq_true, if_false, Int.one_mul]; rw [wrap_small this]
  simp only [if_true]; rw [Int.neg_one_mul, wrap_small (by omega)]
 rw [if_neg t]
 by_cases u : e1 + (bl n1 : Int) - 1 < e2 + (bl n2 : Int) - 1
 ·have := am_lt z1 z2 b1 b2 (by omega)
  rw [if_pos u]
  rw [cmpI_lt this]
  cases s1
  ·simp only [Bool.false_eq_true, if_false]; rw [wrap_small (by omega)]
  simp only [if_true]; rw [wrap_small (by omega)]
 have := am_lt z2 z1 b2 b1 (by omega)
 rw [if_neg u, cmpI_gt this]
end Go.Proofs.YtemfckibdojbbaaDoor.Nf

namespace Go.Proofs.YtemfckibdojbbaaDoor.Nf
open Go.RowKit Go.Proofs.YtemfckibdojbbaaDoor.PAll Go.Proofs.YtemfckibdojbbaaDoorW.PrintWords Go.Proofs.YtemfckibdojbbaaDoorW.PrintLast Go.Proofs.YtemfckibdojbbaaDoorW.PrintMore Go.Proofs.YtemfckibdojbbaaDoor.Nm
set_option linter.unusedVariables false
set_option linter.unusedSimpArgs false
theorem od_zero : od 0 = 0 := by unfold od; rw [Nat.zero_div]
end Go.Proofs.YtemfckibdojbbaaDoor.Nf

namespace Go.Proofs.YtemfckibdojbbaaDoor.Nf
open Go.RowKit Go.Proofs.YtemfckibdojbbaaDoor.PAll Go.Proofs.YtemfckibdojbbaaDoorW.PrintWords Go.Proofs.YtemfckibdojbbaaDoorW.PrintLast Go.Proofs.YtemfckibdojbbaaDoorW.PrintMore Go.Proofs.YtemfckibdojbbaaDoor.Nm
set_option linter.unusedVariables false
set_option linter.unusedSimpArgs false
theorem begins_eq (k : Nat) (hk : 1000 ≤ k) : ulplaw04_begins.f k = some true :=
 at_rounds ulplaw04_begins.mono hk (by decide +kernel)
structure Wl (l : List Int) : Prop where
 ws : Ws l
 len : l.length < 17592186044000
theorem wl_nil : Wl [] := ⟨ws_nil, by simp⟩
theorem wl_ofN {v : Nat} (h : (ofN v).length < 17592186044000) : Wl (ofN v) := ⟨ws_ofN v, h⟩
theorem wl_cf (s : Bool) {n : Nat} (e : Int) (h : (ofN n).length < 17592186044000) : Wl (cf s n e).2.1 := by
 by_cases z : n = 0
 ·rw [z, cf_zero]; exact wl_nil
 rw [cf_ne z]; exact wl_ofN (Nat.lt_of_le_of_lt (len_od n) h)
def cmpS (s1 : Bool) (l1 : List Int) (e1 : Int) (s2 : Bool) (l2 : List Int) (e2 : Int) : Int × Int := if fits (val l1) e1 = true ∧ fits (val l2) e2 = true then (cmpZ (vl s1 l1 e1) (vl s2 l2 e2), 0) else (0, 2)
theorem dCmp_eq (s1 s2 : Bool) (l1 l2 : List Int) (e1 e2 : Int) (k : Nat) (w1 : Wl l1) (w2 : Wl l2) (hk : 200000000000000000 ≤ k) : dyad_Cmp.f k s1 l1 e1 s2 l2 e2 = some (cmpS s1 l1 e1 s2 l2 e2) := by
 unfold dyad_Cmp.f cmpS
 rw [right_eq s1 l1 e1 k w1.ws w1.len (by omega), bind_s]
 by_cases h1 : fits (val l1) e1 = true
 ·rw [if_pos h1, right_eq s2 l2 e2 k w2.ws w2.len (by omega), bind_s]
  by_cases h2 : fits (val l2) e2 = true
  ·have g1 := rs_fits w1.ws w1.len h1
   have g2 := rs_fits w2.ws w2.len h2
   rw [if_pos h2, if_pos ⟨h1, h2⟩, Cmp_eq' s1 s2 l1 l2 e1 e2 k g1.t g2.t (by omega), bind_s]
  rw [if_neg h2, if_neg (fun c => h2 c.2)]
 rw [if_neg h1, if_neg (fun c => h1 c.1)]
theorem bl_od (n : Nat) : bl n = bl (od n) + tz n := by
 by_cases h : n = 0
 ·subst h; rw [od_zero, bl_zero]; unfold tz; rw [dif_neg (by simp)]
 have := bl_shl (od_ne h) (tz n)
 rwa [od_mul] at this
end Go.Proofs.YtemfckibdojbbaaDoor.Nf

namespace Go.Proofs.YtemfckibdojbbaaDoor.Nf
open Go.RowKit Go.Proofs.YtemfckibdojbbaaDoor.PAll Go.Proofs.YtemfckibdojbbaaDoorW.PrintWords Go.Proofs.YtemfckibdojbbaaDoorW.PrintLast Go.Proofs.YtemfckibdojbbaaDoorW.PrintMore Go.Proofs.YtemfckibdojbbaaDoor.Nm
set_option linter.unusedVariables false
set_option linter.unusedSimpArgs false
theorem len_word {v : Nat} (h : v < 18446744073709551616) : (ofN v).length ≤ 1 := (ofN_len v 1).2 (by rw [Nat.pow_one]; exact h)
end Go.Proofs.YtemfckibdojbbaaDoor.Nf

namespace Go.Proofs.YtemfckibdojbbaaDoor.Nf
open Go.RowKit Go.Proofs.YtemfckibdojbbaaDoor.PAll Go.Proofs.YtemfckibdojbbaaDoorW.PrintWords Go.Proofs.YtemfckibdojbbaaDoorW.PrintLast Go.Proofs.YtemfckibdojbbaaDoorW.PrintMore Go.Proofs.YtemfckibdojbbaaDoor.Nm
set_option linter.unusedVariables false
set_option linter.unusedSimpArgs false
theorem val_cf (s : Bool) (n : Nat) (e : Int) : val (cf s n e).2.1 = od n := by
 by_cases h : n = 0
 ·rw [h, cf_zero, od_zero]; rfl
 rw [cf_ne h]; exact val_ofN _
theorem od_od (n : Nat) : od (od n) = od n := by
 by_cases h : n = 0
 ·rw [h, od_zero, od_zero]
 obtain ⟨t, m, e⟩ := low_form n h
 rw [od_eq e]
 exact od_eq (t := 0) (by rw [Nat.pow_zero, Nat.one_mul])
end Go.Proofs.YtemfckibdojbbaaDoor.Nf

namespace Go.Proofs.YtemfckibdojbbaaDoor.Nf
open Go.RowKit Go.Proofs.YtemfckibdojbbaaDoor.PAll Go.Proofs.YtemfckibdojbbaaDoorW.PrintWords Go.Proofs.YtemfckibdojbbaaDoorW.PrintLast Go.Proofs.YtemfckibdojbbaaDoorW.PrintMore Go.Proofs.YtemfckibdojbbaaDoor.Nm
set_option linter.unusedVariables false
set_option linter.unusedSimpArgs false
def fneg (x : Int) : Bool := decide (9223372036854775808 ≤ x)
noncomputable def fromS (x : Int) : Bool × List Int × Int × Int :=
 if Nb.isFin x then ((cf (fneg x) (Nb.mant x).toNat (Nb.expo x)).1, (cf (fneg x) (Nb.mant x).toNat (Nb.expo x)).2.1, (cf (fneg x) (Nb.mant x).toNat (Nb.expo x)).2.2, 0) else (false, [], 0, 5)
theorem w64_div {x : Int} (h : Nb.W64 x) : Nb.W64 (x / 4503599627370496) := by
 obtain ⟨a, b⟩ := h; unfold Nb.W64; omega
theorem sign_bit {x : Int} (h : Nb.W64 x) : (x / 9223372036854775808 == 1) = fneg x := by
 obtain ⟨a, b⟩ := h
 unfold fneg
 rw [Bool.eq_iff_iff, beq_iff_eq, decide_eq_true_iff]; omega
theorem ws_one {v : Int} (h0 : 0 ≤ v) (h1 : v < 18446744073709551616) : Ws [v] := ws_cons.2 ⟨⟨h0, h1⟩, ws_nil⟩
theorem val_one (v : Int) : val [v] = v.toNat := by rw [val_cons, val_nil, Nat.mul_zero, Nat.add_zero]
theorem len_one (v : Int) : [v].length < 17592186044000 := by show 1 < 17592186044000; omega
theorem dFrom_eq (x : Int) (k : Nat) (hx : Nb.W64 x) (hk : 100000000000000000 ≤ k) : dyad_From.f k x = some (fromS x) := by
 unfold dyad_From.f fromS
 have hb := Nb.ex_bd hx
 have hf := Nb.fr_bd hx
 have hi := Nb.isFin_iff hx
 have e0 : wrap64 (Go.bits .and .u64 (x / 4503599627370496) 2047) = Nb.ex x := by
  rw [Nb.and_2047 (w64_div hx)]
  exact wrapS (by unfold Nb.ex at hb; omega) (by unfold Nb.ex at hb; omega)
 rw [e0, sign_bit hx, Nb.and_frac hx]
 have ef : x % 4503599627370496 = Nb.fr x := rfl
 rw [ef]
 by_cases h : Nb.ex x = 2047
 ·rw [if_pos h, if_neg (fun c => by have := hi.1 c; omega)]
 rw [if_neg h, if_pos (hi.2 (by omega))]
 by_cases z : Nb.ex x = 0
 ·have m : Nb.mant x = Nb.fr x := by unfold Nb.mant; exact if_pos z
  have p : Nb.expo x = -1074 := by unfold Nb.expo; exact if_pos z
  rw [if_pos z, Form_eq _ _ _ k (ws_one hf.1 (by omega)) (len_one _) (by decide) (by decide) hk, bind_s, val_one, m, p]; rfl
 have m : Nb.mant x = Nb.fr x + 4503599627370496 := by unfold Nb.mant; exact if_neg z
 have p : Nb.expo x = Nb.ex x - 1075 := by unfold Nb.expo; exact if_neg z
 rw [if_neg z, Nb.or_one52 hf.1 hf.2, wrapS (by omega) (by omega), Form_eq _ _ _ k (ws_one (by omega) (by omega)) (len_one _) (by omega) (by omega) hk, bind_s, val_one, m, p]
def toX (o : Nat) (E : Int) : Nat := if E + (bl o : Int) - 1 < -1022 then o * 2 ^ (E + 1074).toNat else (E + (bl o : Int) + 1022).toNat * 4503599627370496 + (o * 2 ^ (53 - bl o) - 4503599627370496)
def sX (s : Bool) : Int := if s = true then 9223372036854775808 else 0
noncomputable def toS (s : Bool) (n : Nat) (e : Int) : Int × Bool :=
 if fits n e = true then (if n = 0 then (0, true) else if (bl (od n) : Int) > 53 ∨ e + (tz n : Int) + (bl (od n) : Int) - 1 > 1023 ∨ e + (tz n : Int) < -1074 then (0, false) else ((toX (od n) (e + (tz n : Int)) : Int) + sX s, true)) else (0, false)
theorem ofN_word {o : Nat} (h0 : o ≠ 0) (h : o < 18446744073709551616) : ofN o = [(o : Int)] := by
 rw [ofN_pos h0, Nat.mod_eq_of_lt h, Nat.div_eq_of_lt h, ofN_zero]
theorem bl_range {o : Nat} (h : o ≠ 0) : 2 ^ (bl o - 1) ≤ o ∧ o < 2 ^ bl o ∧ 1 ≤ bl o := by
 have a := bl_le h
 have b := bl_lt o
 have c : 1 ≤ bl o := Nat.pos_of_ne_zero (bl_ne h)
 refine ⟨?_, b, c⟩
 rw [show bl o = bl o - 1 + 1 by omega, Nat.pow_succ] at a
 omega
theorem p52 {i : Nat} (h : i ≤ 52) : 2 ^ i ≤ 4503599627370496 := Nat.le_trans (Nat.pow_le_pow_right (by decide) h) (by decide : 2 ^ 52 ≤ 4503599627370496)
theorem p53 {i : Nat} (h : i ≤ 53) : 2 ^ i ≤ 9007199254740992 := Nat.le_trans (Nat.pow_le_pow_right (by decide) h) (by decide : 2 ^ 53 ≤ 9007199254740992)
theorem to_small {o : Nat} {E : Int} (h0 : o ≠ 0) (hE : -1074 ≤ E) (hT : E + (bl o : Int) - 1 < -1022) : o * 2 ^ (E + 1074).toNat < 4503599627370496 := by
 obtain ⟨a, b, c⟩ := bl_range h0
 have : o * 2 ^ (E + 1074).toNat < 2 ^ bl o * 2 ^ (E + 1074).toNat := Nat.mul_lt_mul_of_pos_right b (Nat.pow_pos (by decide))
 rw [← Nat.pow_add] at this
 exact Nat.lt_of_lt_of_le this (p52 (by omega))
theorem to_great {o : Nat} (h0 : o ≠ 0) (hb : bl o ≤ 53) : 4503599627370496 ≤ o * 2 ^ (53 - bl o) ∧ o * 2 ^ (53 - bl o) < 9007199254740992 := by
 obtain ⟨a, b, c⟩ := bl_range h0
 constructor
 ·have : 2 ^ (bl o - 1) * 2 ^ (53 - bl o) ≤ o * 2 ^ (53 - bl o) := Nat.mul_le_mul_right _ a
  rw [← Nat.pow_add, show bl o - 1 + (53 - bl o) = 52 by omega] at this
  exact this
 have : o * 2 ^ (53 - bl o) < 2 ^ bl o * 2 ^ (53 - bl o) := Nat.mul_lt_mul_of_pos_right b (Nat.pow_pos (by decide))
 rw [← Nat.pow_add, show bl o + (53 - bl o) = 53 by omega] at this
 exact this
theorem shl_word {o d : Nat} (hd : d ≤ 64) (h : o * 2 ^ d < 18446744073709551616) : shl .u64 (o : Int) (d : Int) = ((o * 2 ^ d : Nat) : Int) := by
 rw [shl_eq o d hd, Nat.mod_eq_of_lt h]
theorem dTo_eq (s : Bool) (l : List Int) (e : Int) (k : Nat) (w : Wl l) (hk : 300000000000000000 ≤ k) : dyad_To.f k s l e = some (toS s (val l) e) := by
 unfold dyad_To.f toS
 rw [right_eq s l e k w.ws w.len (by omega), bind_s]
 by_cases f : fits (val l) e = true
 ·have g := rs_fits w.ws w.len f
  rw [if_pos f, if_pos f, One_eq s l e k g.t (by omega), bind_s]
  have gl := g.lo; have gh := g.hi; have gs := g.sm
  generalize val l = n at *
  by_cases z : n = 0
  ·rw [z, cf_zero, Zero_eq _ _ _ k ws_nil (by simp) (by omega), bind_s, if_pos (by rw [val_nil]; rfl), if_pos rfl]
  have hl := len_od n
  have t1 := tz_small z (by omega)
  have o0 := od_ne z
  have hbl := bl_len (Nat.le_trans hl gs)
  rw [cf_ne z, if_neg z, Zero_eq _ _ _ k (ws_ofN _) (by show (ofN (od n)).length < _; omega) (by omega), bind_s]
  rw [if_neg (by rw [val_ofN]; simpa using o0)]
  show ((raw_Top.f k s (ofN (od n)) (e + (tz n : Int))).bind _) = _
  rw [Top_eq _ _ _ k (ws_ofN _) (by omega) (by omega) (by omega) (by omega), bind_s]
  show ((limbs_Len.f k (ofN (od n))).bind _) = _
  rw [lLen_eq (ofN (od n)) k (ws_ofN _) (by omega) (by omega), bind_s, val_ofN]
  obtain ⟨k, rfl⟩ : ∃ m, k = m + 1 := ⟨k - 1, by omega⟩
  generalize od n = o at *
  show (if (bl o : Int) > 53 then dyad_To.j0 (k + 1) (e + (tz n : Int) + (bl o : Int) - 1) true s (ofN o) (e + (tz n : Int)) else if e + (tz n : Int) + (bl o : Int) - 1 > 1023 then dyad_To.j0 (k + 1) (e + (tz n : Int) + (bl o : Int) - 1) true s (ofN o) (e + (tz n : Int)) else dyad_To.j0 (k + 1) (e + (tz n : Int) + (bl o : Int) - 1) (decide (e + (tz n : Int) < -1074)) s (ofN o) (e + (tz n : Int))) = _
  generalize e + (tz n : Int) = E at *
  have no : dyad_To.j0 (k + 1) (E + (bl o : Int) - 1) true s (ofN o) E = some (0, false) := by simp only [dyad_To.j0]; rw [if_pos trivial]
  by_cases q1 : (bl o : Int) > 53
  ·rw [if_pos q1, if_pos (.inl q1), no]
  rw [if_neg q1]
  by_cases q2 : E + (bl o : Int) - 1 > 1023
  ·rw [if_pos q2, if_pos (.inr (.inl q2)), no]
  rw [if_neg q2]
  by_cases q3 : E < -1074
  ·rw [if_pos (.inr (.inr q3)), decide_eq_true q3, no]
  rw [if_neg (fun c => c.elim q1 (fun c => c.elim q2 q3)), decide_eq_false q3]
  obtain ⟨a, b, c⟩ := bl_range o0
  have o53 : o < 9007199254740992 := Nat.lt_of_lt_of_le b (p53 (by omega))
  rw [ofN_word o0 (by omega)]
  simp only [dyad_To.j0]
  rw [if_neg (by decide), if_pos (by show (0 : Int) < ((1 : Nat) : Int); omega), wrapS (x := E + (bl o : Int) - 1 - 52) (by omega) (by omega)]
  have hr : rd [(o : Int)] 0 = (o : Int) := rfl
  rw [hr]
  unfold toX
  by_cases T : E + (bl o : Int) - 1 < -1022
  ·have em : mx (E + (bl o : Int) - 1 - 52) (-1074) = -1074 := by unfold mx; rw [if_pos (by omega)]
   have sm := to_small o0 (by omega) T
   have ed : wrap64 (E - -1074) = (((E + 1074).toNat : Nat) : Int) := by rw [wrapS (by omega) (by omega)]; omega
   have dd : (E + 1074).toNat ≤ 64 := by omega
   rw [em, ed, if_pos (Int.natCast_nonneg _), shl_word dd (by omega), if_pos T]
   generalize o * 2 ^ (E + 1074).toNat = M at *
   rw [if_neg (by omega)]
   unfold sX
   by_cases u : s = true
   ·rw [if_pos u, if_pos u, Nb.or_sign (by omega) (by omega)]
   rw [if_neg u, if_neg u, Int.add_zero]
  have em : mx (E + (bl o : Int) - 1 - 52) (-1074) = E + (bl o : Int) - 53 := by unfold mx; rw [if_neg (by omega)]; omega
  obtain ⟨m1, m2⟩ := to_great o0 (by omega)
  have ed : wrap64 (E - (E + (bl o : Int) - 53)) = (((53 - bl o : Nat) : Nat) : Int) := by rw [wrapS (by omega) (by omega)]; omega
  have ee : IntKind.u64.wrap ((IntKind.u64.wrap (wrap64 (E + (bl o : Int) - 53 + 1075))) * 4503599627370496) = (((E + (bl o : Int) + 1022).toNat : Nat) : Int) * 4503599627370496 := by
   have e3 : E + (bl o : Int) - 53 + 1075 = (((E + (bl o : Int) + 1022).toNat : Nat) : Int) := by omega
   rw [e3, wrapS (by omega) (by omega), wrapU (x := (((E + (bl o : Int) + 1022).toNat : Nat) : Int)) (by omega) (by omega), wrapU (by omega) (by omega)]
  rw [em, ed, if_pos (Int.natCast_nonneg _), shl_word (by omega) (by omega), if_neg T, ee]
  generalize o * 2 ^ (53 - bl o) = M at *
  rw [if_pos (by omega), Nb.and_frac ⟨by omega, by omega⟩]
  have hX : (E + (bl o : Int) + 1022).toNat ≤ 2046 := by omega
  generalize (E + (bl o : Int) + 1022).toNat = X at *
  have ej : Go.bits .or .u64 ((X : Int) * 4503599627370496) ((M : Int) % 4503599627370496) = (X : Int) * 4503599627370496 + (M : Int) % 4503599627370496 :=
   Nb.or_join 52 (by omega) (by omega) (by show (X : Int) * 4503599627370496 % 4503599627370496 = 0; omega) (by omega) (by omega) (by show (M : Int) % 4503599627370496 < 4503599627370496; omega)
  rw [ej]
  unfold sX
  by_cases u : s = true
  ·rw [if_pos u, if_pos u, Nb.or_sign (by omega) (by omega)]
   refine congrArg (fun z : Int => some (z, true)) ?_
   omega
  rw [if_neg u, if_neg u]
  refine congrArg (fun z : Int => some (z, true)) ?_
  omega
 rw [if_neg f, if_neg f]
end Go.Proofs.YtemfckibdojbbaaDoor.Nf

namespace Go.Proofs.YtemfckibdojbbaaDoor.Nf
open Go.RowKit Go.Proofs.YtemfckibdojbbaaDoor.PAll Go.Proofs.YtemfckibdojbbaaDoorW.PrintWords Go.Proofs.YtemfckibdojbbaaDoorW.PrintLast Go.Proofs.YtemfckibdojbbaaDoorW.PrintMore Go.Proofs.YtemfckibdojbbaaDoor.Nm
set_option linter.unusedVariables false
set_option linter.unusedSimpArgs false
theorem tz_od {n : Nat} (h : n ≠ 0) : tz (od n) = 0 := by
 obtain ⟨t, m, e⟩ := low_form n h
 rw [od_eq e]
 exact tz_eq (m := m) (by rw [Nat.pow_zero, Nat.one_mul])
theorem word_big {v : Nat} (h : v < 18446744073709551616) : v < big := by
 rw [← ofN_big]
 have := len_word h
 omega
theorem mant_parts {x : Int} (hx : Nb.W64 x) : 0 ≤ Nb.ex x ∧ Nb.ex x ≤ 2047 ∧ 0 ≤ Nb.fr x ∧ Nb.fr x < 4503599627370496 ∧ x % 9223372036854775808 = Nb.ex x * 4503599627370496 + Nb.fr x ∧ x = Nb.ex x * 4503599627370496 + Nb.fr x + sX (fneg x) := by
 obtain ⟨a, b⟩ := hx
 have s : sX (fneg x) = if 9223372036854775808 ≤ x then 9223372036854775808 else 0 := by
  unfold sX fneg
  by_cases h : 9223372036854775808 ≤ x
  ·rw [if_pos (decide_eq_true h), if_pos h]
  rw [if_neg (by rw [decide_eq_true_iff]; exact h), if_neg h]
 rw [s]
 unfold Nb.ex Nb.fr
 split <;> omega
theorem from_vl {x : Int} (hx : Nb.W64 x) (h : Nb.isFin x) : vl (fromS x).1 (fromS x).2.1 (fromS x).2.2.1 = sg (fneg x) (am (Nb.mant x).toNat (Nb.expo x)) := by
 unfold fromS
 rw [if_pos h]
 have p := Nb.expo_bd hx h
 show vl (cf (fneg x) (Nb.mant x).toNat (Nb.expo x)).1 (cf (fneg x) (Nb.mant x).toNat (Nb.expo x)).2.1 (cf (fneg x) (Nb.mant x).toNat (Nb.expo x)).2.2 = _
 rw [vl_cf (by unfold lowE; omega), Vz_am]
theorem from_fits {x : Int} (hx : Nb.W64 x) (h : Nb.isFin x) : fits (val (fromS x).2.1) (fromS x).2.2.1 = true := by
 unfold fromS
 rw [if_pos h]
 have p := Nb.expo_bd hx h
 have m := Nb.mant_bd hx
 show fits (val (cf (fneg x) (Nb.mant x).toNat (Nb.expo x)).2.1) (cf (fneg x) (Nb.mant x).toNat (Nb.expo x)).2.2 = true
 rw [val_cf]
 refine fits_iff.2 ⟨word_big (Nat.lt_of_le_of_lt (od_le _) (by omega)), ?_⟩
 by_cases z : (Nb.mant x).toNat = 0
 ·rw [z, cf_zero]; exact ⟨by show (-32768 : Int) ≤ 0; omega, by show (0 : Int) ≤ 32768; omega⟩
 rw [cf_ne z]
 have t := tz_lt z
 have b : bl (Nb.mant x).toNat ≤ 53 := bl_le_iff.2 (by show _ < 9007199254740992; omega)
 exact ⟨by show -32768 ≤ Nb.expo x + (tz (Nb.mant x).toNat : Int); omega, by show Nb.expo x + (tz (Nb.mant x).toNat : Int) ≤ 32768; omega⟩
theorem to_from {x : Int} (hx : Nb.W64 x) (h : Nb.isFin x) : toS (fromS x).1 (val (fromS x).2.1) (fromS x).2.2.1 = (if Nb.mant x = 0 then 0 else x, true) := by
 have f := from_fits hx h
 have p := Nb.expo_bd hx h
 have m := Nb.mant_bd hx
 obtain ⟨a1, a2, a3, a4, a5, a6⟩ := mant_parts hx
 unfold toS
 rw [if_pos f]
 unfold fromS
 rw [if_pos h]
 show (if val (cf (fneg x) (Nb.mant x).toNat (Nb.expo x)).2.1 = 0 then _ else if (bl (od (val (cf (fneg x) (Nb.mant x).toNat (Nb.expo x)).2.1)) : Int) > 53 ∨ (cf (fneg x) (Nb.mant x).toNat (Nb.expo x)).2.2 + (tz (val (cf (fneg x) (Nb.mant x).toNat (Nb.expo x)).2.1) : Int) + (bl (od (val (cf (fneg x) (Nb.mant x).toNat (Nb.expo x)).2.1)) : Int) - 1 > 1023 ∨ (cf (fneg x) (Nb.mant x).toNat (Nb.expo x)).2.2 + (tz (val (cf (fneg x) (Nb.mant x).toNat (Nb.expo x)).2.1) : Int) < -1074 then _ else ((toX (od (val (cf (fneg x) (Nb.mant x).toNat (Nb.expo x)).2.1)) ((cf (fneg x) (Nb.mant x).toNat (Nb.expo x)).2.2 + (tz (val (cf (fneg x) (Nb.mant x).toNat (Nb.expo x)).2.1) : Int)) : Int) + sX (cf (fneg x) (Nb.mant x).toNat (Nb.expo x)).1, true)) = _
 rw [val_cf]
 by_cases z : (Nb.mant x).toNat = 0
 ·rw [z, od_zero, if_pos rfl, if_pos (by omega)]
 have mz : ¬ Nb.mant x = 0 := by omega
 have o0 := od_ne z
 rw [if_neg o0, cf_ne z, od_od, tz_od z, if_neg mz]
 have t := tz_lt z
 have b : bl (Nb.mant x).toNat ≤ 53 := bl_le_iff.2 (by show _ < 9007199254740992; omega)
 have bo := bl_od (Nb.mant x).toNat
 have om := od_mul (Nb.mant x).toNat
 show (if (bl (od (Nb.mant x).toNat) : Int) > 53 ∨ Nb.expo x + (tz (Nb.mant x).toNat : Int) + ((0 : Nat) : Int) + (bl (od (Nb.mant x).toNat) : Int) - 1 > 1023 ∨ Nb.expo x + (tz (Nb.mant x).toNat : Int) + ((0 : Nat) : Int) < -1074 then _ else ((toX (od (Nb.mant x).toNat) (Nb.expo x + (tz (Nb.mant x).toNat : Int) + ((0 : Nat) : Int)) : Int) + sX (fneg x), true)) = _
 have nn : ¬ ((bl (od (Nb.mant x).toNat) : Int) > 53 ∨ Nb.expo x + (tz (Nb.mant x).toNat : Int) + ((0 : Nat) : Int) + (bl (od (Nb.mant x).toNat) : Int) - 1 > 1023 ∨ Nb.expo x + (tz (Nb.mant x).toNat : Int) + ((0 : Nat) : Int) < -1074) := by omega
 rw [if_neg nn]
 have key : (toX (od (Nb.mant x).toNat) (Nb.expo x + (tz (Nb.mant x).toNat : Int) + ((0 : Nat) : Int)) : Int) = Nb.ex x * 4503599627370496 + Nb.fr x := by
  unfold toX
  by_cases q : Nb.ex x = 0
  ·have me : Nb.mant x = Nb.fr x := by unfold Nb.mant; exact if_pos q
   have pe : Nb.expo x = -1074 := by unfold Nb.expo; exact if_pos q
   have b2 : bl (Nb.mant x).toNat ≤ 52 := bl_le_iff.2 (by show _ < 4503599627370496; omega)
   rw [if_pos (by omega), show (Nb.expo x + (tz (Nb.mant x).toNat : Int) + ((0 : Nat) : Int) + 1074).toNat = tz (Nb.mant x).toNat by omega, om]
   omega
  have me : Nb.mant x = Nb.fr x + 4503599627370496 := by unfold Nb.mant; exact if_neg q
  have pe : Nb.expo x = Nb.ex x - 1075 := by unfold Nb.expo; exact if_neg q
  have b2 : bl (Nb.mant x).toNat = 53 := bl_unique (m := 52) (by show 4503599627370496 ≤ _; omega) (by show _ < 9007199254740992; omega)
  rw [if_neg (by omega), show 53 - bl (od (Nb.mant x).toNat) = tz (Nb.mant x).toNat by omega, om, show (Nb.expo x + (tz (Nb.mant x).toNat : Int) + ((0 : Nat) : Int) + (bl (od (Nb.mant x).toNat) : Int) + 1022).toNat = (Nb.ex x).toNat by omega]
  omega
 rw [key, ← a6]
theorem amt_eq {x y : Int} (hx : Nb.W64 x) (hy : Nb.W64 y) (h : x % 9223372036854775808 = y % 9223372036854775808) : Nb.mant x = Nb.mant y ∧ Nb.expo x = Nb.expo y := by
 have e : Nb.ex x = Nb.ex y := by unfold Nb.ex; omega
 have f : Nb.fr x = Nb.fr y := by unfold Nb.fr; omega
 unfold Nb.mant Nb.expo
 rw [e, f]; exact ⟨rfl, rfl⟩
theorem mant_zero {x : Int} (hx : Nb.W64 x) : Nb.mant x = 0 ↔ x % 9223372036854775808 = 0 := by
 obtain ⟨a1, a2, a3, a4, a5, a6⟩ := mant_parts hx
 unfold Nb.mant
 by_cases q : Nb.ex x = 0
 ·rw [if_pos q]; omega
 rw [if_neg q]; omega
theorem amt_lt {x y : Int} (hx : Nb.W64 x) (hy : Nb.W64 y) (fx : Nb.isFin x) (fy : Nb.isFin y) (h : x % 9223372036854775808 < y % 9223372036854775808) : am (Nb.mant x).toNat (Nb.expo x) < am (Nb.mant y).toNat (Nb.expo y) := by
 obtain ⟨a1, a2, a3, a4, a5, a6⟩ := mant_parts hx
 obtain ⟨b1, b2, b3, b4, b5, b6⟩ := mant_parts hy
 have px := Nb.expo_bd hx fx
 have py := Nb.expo_bd hy fy
 have mx_ := Nb.mant_bd hx
 by_cases e : Nb.ex x = Nb.ex y
 ·have pe : Nb.expo x = Nb.expo y := by unfold Nb.expo; rw [e]
  have mm : Nb.mant x < Nb.mant y := by
   unfold Nb.mant; rw [e]; split <;> omega
  unfold am
  rw [pe]
  exact Nat.mul_lt_mul_of_pos_right (by omega) (Nat.pow_pos (by decide))
 have lt : Nb.ex x < Nb.ex y := by omega
 have my : Nb.mant y = Nb.fr y + 4503599627370496 := by unfold Nb.mant; exact if_neg (by omega)
 have ey : Nb.expo y = Nb.ex y - 1075 := by unfold Nb.expo; exact if_neg (by omega)
 have hyz : (Nb.mant y).toNat ≠ 0 := by omega
 have b2 : bl (Nb.mant y).toNat = 53 := bl_unique (m := 52) (by show 4503599627370496 ≤ _; omega) (by show _ < 9007199254740992; omega)
 by_cases z : (Nb.mant x).toNat = 0
 ·rw [z]
  unfold am
  rw [Nat.zero_mul]
  exact Nat.mul_pos (by omega) (Nat.pow_pos (by decide))
 refine am_lt z hyz (by unfold lowE; omega) (by unfold lowE; omega) ?_
 rw [b2]
 by_cases q : Nb.ex x = 0
 ·have me : Nb.mant x = Nb.fr x := by unfold Nb.mant; exact if_pos q
  have pe : Nb.expo x = -1074 := by unfold Nb.expo; exact if_pos q
  have b3 : bl (Nb.mant x).toNat ≤ 52 := bl_le_iff.2 (by show _ < 4503599627370496; omega)
  omega
 have pe : Nb.expo x = Nb.ex x - 1075 := by unfold Nb.expo; exact if_neg q
 have b3 : bl (Nb.mant x).toNat ≤ 53 := bl_le_iff.2 (by show _ < 9007199254740992; omega)
 omega
theorem from_lt {x y : Int} (hx : Nb.W64 x) (hy : Nb.W64 y) (fx : Nb.isFin x) (fy : Nb.isFin y) : vl (fromS x).1 (fromS x).2.1 (fromS x).2.2.1 < vl (fromS y).1 (fromS y).2.1 (fromS y).2.2.1 ↔ Nb.pl x < Nb.pl y := by
 rw [from_vl hx fx, from_vl hy fy]
 have L := fun h => amt_lt hx hy fx fy h
 have G := fun h => amt_lt hy hx fy fx h
 have E : x % 9223372036854775808 = y % 9223372036854775808 → am (Nb.mant x).toNat (Nb.expo x) = am (Nb.mant y).toNat (Nb.expo y) := fun h => by
  obtain ⟨a, b⟩ := amt_eq hx hy h; rw [a, b]
 have zx : am (Nb.mant x).toNat (Nb.expo x) = 0 ↔ x % 9223372036854775808 = 0 := by
  have m := Nb.mant_bd hx
  constructor
  ·intro h
   refine Classical.byContradiction fun c => ?_
   have : (Nb.mant x).toNat ≠ 0 := fun d => c ((mant_zero hx).1 (by omega))
   exact am_pos this _ h
  intro h; rw [(mant_zero hx).2 h]; unfold am; exact Nat.zero_mul _
 have zy : am (Nb.mant y).toNat (Nb.expo y) = 0 ↔ y % 9223372036854775808 = 0 := by
  have m := Nb.mant_bd hy
  constructor
  ·intro h
   refine Classical.byContradiction fun c => ?_
   have : (Nb.mant y).toNat ≠ 0 := fun d => c ((mant_zero hy).1 (by omega))
   exact am_pos this _ h
  intro h; rw [(mant_zero hy).2 h]; unfold am; exact Nat.zero_mul _
 generalize am (Nb.mant x).toNat (Nb.expo x) = A at *
 generalize am (Nb.mant y).toNat (Nb.expo y) = B at *
 obtain ⟨x0, x1⟩ := hx
 obtain ⟨y0, y1⟩ := hy
 have tri : x % 9223372036854775808 < y % 9223372036854775808 ∨ x % 9223372036854775808 = y % 9223372036854775808 ∨ y % 9223372036854775808 < x % 9223372036854775808 := by omega
 have sx : sg (fneg x) A = if x < 9223372036854775808 then (A : Int) else -(A : Int) := by
  unfold sg fneg
  by_cases h : x < 9223372036854775808
  ·rw [if_pos h, if_neg (by rw [decide_eq_true_iff]; omega)]
  rw [if_neg h, if_pos (decide_eq_true (by omega))]
 have sy : sg (fneg y) B = if y < 9223372036854775808 then (B : Int) else -(B : Int) := by
  unfold sg fneg
  by_cases h : y < 9223372036854775808
  ·rw [if_pos h, if_neg (by rw [decide_eq_true_iff]; omega)]
  rw [if_neg h, if_pos (decide_eq_true (by omega))]
 rw [sx, sy]
 unfold Nb.pl
 rcases tri with t | t | t
 ·have := L t
  by_cases a : x < 9223372036854775808 <;> by_cases b : y < 9223372036854775808 <;> simp only [a, b, if_true, if_false] <;> omega
 ·have := E t
  by_cases a : x < 9223372036854775808 <;> by_cases b : y < 9223372036854775808 <;> simp only [a, b, if_true, if_false] <;> omega
 have := G t
 by_cases a : x < 9223372036854775808 <;> by_cases b : y < 9223372036854775808 <;> simp only [a, b, if_true, if_false] <;> omega
theorem cmpZ_neg (u v : Int) : decide (cmpZ u v < 0) = decide (u < v) := by
 rw [decide_eq_decide]; unfold cmpZ; split <;> (try split) <;> omega
theorem cmpZ_pos (u v : Int) : decide (cmpZ u v > 0) = decide (v < u) := by
 rw [decide_eq_decide]; unfold cmpZ; split <;> (try split) <;> omega
end Go.Proofs.YtemfckibdojbbaaDoor.Nf

namespace Go.Proofs.YtemfckibdojbbaaDoor.Pure
open Go.RowKit Go.Proofs.YtemfckibdojbbaaDoor.PAll Go.Proofs.YtemfckibdojbbaaDoorW.PrintWords Go.Proofs.YtemfckibdojbbaaDoorW.PrintLast Go.Proofs.YtemfckibdojbbaaDoorW.PrintMore
set_option linter.unusedVariables false
set_option linter.unusedSimpArgs false
open Go.Proofs.YtemfckibdojbbaaDoor.Nm Go.Proofs.YtemfckibdojbbaaDoor.Nf
theorem from_wl (x : Int) (hx : Nb.W64 x) : Wl (fromS x).2.1 := by
 unfold fromS
 split
 ·refine wl_cf _ _ ?_
  have := Nb.mant_bd hx
  have := len_word (v := (Nb.mant x).toNat) (by omega)
  omega
 exact wl_nil
theorem from_code (x : Int) : (fromS x).2.2.2 = if Nb.isFin x then 0 else 5 := by
 unfold fromS
 split <;> rfl
theorem fin_num {x : Int} (h : Nb.isFin x) : Nb.isNum x := by unfold Nb.isFin at h; unfold Nb.isNum; omega
theorem DyadExact : ulplaw04_DyadExact.Pure := by
 intro x y h1 h2
 have hx := Nb.w64_of h1
 have hy := Nb.w64_of h2
 obtain ⟨k, hk⟩ : ∃ k, k = 300000000000000000 := ⟨_, rfl⟩
 have hk0 : 300000000000000000 ≤ k := by omega
 clear hk
 refine ⟨k + 2, ?_⟩
 unfold ulplaw04_DyadExact.f
 rw [begins_eq (k + 2) (by omega), bind_s, if_pos rfl, dFrom_eq x (k + 2) hx (by omega), bind_s, dFrom_eq y (k + 2) hy (by omega), bind_s, from_code, from_code]
 by_cases fx : Nb.isFin x
 ·rw [if_pos fx, if_pos rfl]
  by_cases fy : Nb.isFin y
  ·rw [if_pos fy]
   simp only [ulplaw04_DyadExact.j0]
   rw [if_neg (by decide), dTo_eq _ _ _ (k + 1) (from_wl x hx) (by omega), bind_s, to_from hx fx]
   have fin : ulplaw04_DyadExact.j1 (k + 1) x y false (fromS x).1 (fromS x).2.1 (fromS x).2.2.1 (fromS y).1 (fromS y).2.1 (fromS y).2.2.1 = some true := by
    simp only [ulplaw04_DyadExact.j1]
    rw [if_neg (by decide), dCmp_eq _ _ _ _ _ _ k (from_wl x hx) (from_wl y hy) (by omega), bind_s]
    unfold cmpS
    rw [if_pos (c := fits (val (fromS x).2.1) (fromS x).2.2.1 = true ∧ fits (val (fromS y).2.1) (fromS y).2.2.1 = true) ⟨from_fits hx fx, from_fits hy fy⟩]
    show (if (0 : Int) = 0 then _ else _) = _
    rw [if_pos rfl, Nb.less_eq hx hy, bind_s, Nb.less_eq hy hx]
    have e1 : decide (cmpZ (vl (fromS x).1 (fromS x).2.1 (fromS x).2.2.1) (vl (fromS y).1 (fromS y).2.1 (fromS y).2.2.1) < 0) = decide (Nb.isNum x ∧ Nb.isNum y ∧ Nb.pl x < Nb.pl y) := by
     rw [cmpZ_neg, decide_eq_decide, from_lt hx hy fx fy]
     exact ⟨fun h => ⟨fin_num fx, fin_num fy, h⟩, fun h => h.2.2⟩
    have e2 : decide (cmpZ (vl (fromS x).1 (fromS x).2.1 (fromS x).2.2.1) (vl (fromS y).1 (fromS y).2.1 (fromS y).2.2.1) > 0) = decide (Nb.isNum y ∧ Nb.isNum x ∧ Nb.pl y < Nb.pl x) := by
     rw [cmpZ_pos, decide_eq_decide, from_lt hy hx fy fx]
     exact ⟨fun h => ⟨fin_num fy, fin_num fx, h⟩, fun h => h.2.2⟩
    simp only []
    rw [e1, if_pos (by simp), bind_s, e2]
    simp
   show (if true = true then (if (if Nb.mant x = 0 then (0 : Int) else x) = x then ulplaw04_DyadExact.j1 (k + 1) x y false (fromS x).1 (fromS x).2.1 (fromS x).2.2.1 (fromS y).1 (fromS y).2.1 (fromS y).2.2.1 else (if x = 9223372036854775808 then ulplaw04_DyadExact.j1 (k + 1) x y ((if Nb.mant x = 0 then (0 : Int) else x) != 0) (fromS x).1 (fromS x).2.1 (fromS x).2.2.1 (fromS y).1 (fromS y).2.1 (fromS y).2.2.1 else _)) else _) = _
   rw [if_pos rfl]
   by_cases z : Nb.mant x = 0
   ·rw [if_pos z]
    by_cases q : (0 : Int) = x
    ·rw [if_pos q]; exact fin
    have x63 : x = 9223372036854775808 := by
     have := (mant_zero hx).1 z
     obtain ⟨a, b⟩ := hx
     omega
    rw [if_neg q, if_pos x63]
    exact fin
   rw [if_neg z, if_pos rfl]; exact fin
  rw [if_neg fy]
  simp only [ulplaw04_DyadExact.j0]
  rfl
 rw [if_neg fx]
 rw [if_neg (show ¬ (5 : Int) = 0 by decide)]
 simp only [ulplaw04_DyadExact.j0]
 by_cases fy : Nb.isFin y
 ·rw [if_pos fy]; rfl
 rw [if_neg fy]; rfl
end Go.Proofs.YtemfckibdojbbaaDoor.Pure
