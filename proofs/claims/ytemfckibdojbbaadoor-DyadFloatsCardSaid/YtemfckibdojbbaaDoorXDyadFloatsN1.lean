/- Plain part. -/
import Derived.Test.YtemfckibdojbbaaDoorXDyadFloatsN0
import Derived.Test.YtemfckibdojbbaaDoorXDyadFloatsP2
import Derived.Test.YtemfckibdojbbaaDoorXDyadFloatsP19
import Derived.Test.YtemfckibdojbbaaDoorXDyadFloatsP8
import Derived.Test.YtemfckibdojbbaaDoorXDyadFloatsP10
import Derived.Test.YtemfckibdojbbaaDoorXDyadFloatsP14
import Derived.Test.YtemfckibdojbbaaDoorXDyadFloatsP15
import Derived.Test.YtemfckibdojbbaaDoorXDyadFloatsP16
import Derived.Test.YtemfckibdojbbaaDoorXDyadFloatsP17
import Derived.Test.YtemfckibdojbbaaDoorXDyadFloatsP18
import Derived.Laws.StructEq
namespace Go.Proofs.YtemfckibdojbbaaDoor.Nf
open Go.RowKit Go.Proofs.YtemfckibdojbbaaDoor.PAll Go.Proofs.YtemfckibdojbbaaDoorW.PrintWords Go.Proofs.YtemfckibdojbbaaDoorW.PrintLast Go.Proofs.YtemfckibdojbbaaDoorW.PrintMore Go.Proofs.YtemfckibdojbbaaDoor.Nm
set_option linter.unusedVariables false
set_option linter.unusedSimpArgs false
theorem int_neg {n : Int} (h0 : -9223372036854775808 ≤ n) (h1 : n < 0) : IntKind.u64.wrap (-(IntKind.u64.wrap n)) = ((n.natAbs : Nat) : Int) := by
 rw [IntKind.wrap_u64, IntKind.wrap_u64]; omega
theorem int_pos {n : Int} (h0 : 0 ≤ n) (h1 : n < 9223372036854775808) : IntKind.u64.wrap n = ((n.natAbs : Nat) : Int) := by
 rw [IntKind.wrap_u64]; omega
theorem len_word {v : Nat} (h : v < 18446744073709551616) : (ofN v).length ≤ 1 := (ofN_len v 1).2 (by rw [Nat.pow_one]; exact h)
theorem Int_eq (n : Int) (k : Nat) (h0 : -9223372036854775808 ≤ n) (h1 : n < 9223372036854775808) (hk : 100000000000000000 ≤ k) : dyad_Int.f k n = some (cf (decide (n < 0)) n.natAbs 0) := by
 unfold dyad_Int.f raw_Int.f
 have hw : n.natAbs < 18446744073709551616 := by omega
 have hl := len_word hw
 by_cases h : n < 0
 ·rw [if_pos h, int_neg h0 h, lOf_eq _ hw, bind_s, Form_eq _ _ _ k (ws_ofN _) (by omega) (by omega) (by omega) hk, bind_s, bind_s, val_ofN]
 rw [if_neg h, int_pos (by omega) h1, lOf_eq _ hw, bind_s, Form_eq _ _ _ k (ws_ofN _) (by omega) (by omega) (by omega) hk, bind_s, bind_s, val_ofN]
theorem rInt_eq (n : Int) (k : Nat) (h0 : -9223372036854775808 ≤ n) (h1 : n < 9223372036854775808) (hk : 100000000000000000 ≤ k) : ulpref04_Int.f k n = some (cf (decide (n < 0)) n.natAbs 0) := by
 unfold ulpref04_Int.f
 have hw : n.natAbs < 18446744073709551616 := by omega
 have hl := len_word hw
 by_cases h : n < 0
 ·rw [if_pos h, int_neg h0 h, Of_eq _ k hw (by omega), bind_s, rForm_eq _ _ _ k (ws_ofN _) (by omega) (by omega) (by omega) hk, bind_s, val_ofN, decide_eq_true h]
 rw [if_neg h, int_pos (by omega) h1, Of_eq _ k hw (by omega), bind_s, rForm_eq _ _ _ k (ws_ofN _) (by omega) (by omega) (by omega) hk, bind_s, val_ofN, decide_eq_false h]
end Go.Proofs.YtemfckibdojbbaaDoor.Nf

namespace Go.Proofs.YtemfckibdojbbaaDoor.Nf
open Go.RowKit Go.Proofs.YtemfckibdojbbaaDoor.PAll Go.Proofs.YtemfckibdojbbaaDoorW.PrintWords Go.Proofs.YtemfckibdojbbaaDoorW.PrintLast Go.Proofs.YtemfckibdojbbaaDoorW.PrintMore Go.Proofs.YtemfckibdojbbaaDoor.Nm
set_option linter.unusedVariables false
set_option linter.unusedSimpArgs false
def fneg (x : Int) : Bool := decide (9223372036854775808 ≤ x)
noncomputable def fromS (x : Int) : Bool × List Int × Int × Int :=
 if Nb.isFin x then ((cf (fneg x) (Nb.mant x).toNat (Nb.expo x)).1, (cf (fneg x) (Nb.mant x).toNat (Nb.expo x)).2.1, (cf (fneg x) (Nb.mant x).toNat (Nb.expo x)).2.2, 0) else (false, [], 0, 5)
theorem w64_div {x : Int} (h : Nb.W64 x) : Nb.W64 (x / 4503599627370496) := by
 obtain ⟨a, b⟩ := h; unfold Nb.W64; omega
theorem sign_bit {x : Int} (h : Nb.W64 x) : (x / 9223372036854775808 == 1) = fneg x := by
 obtain ⟨a, b⟩ := h
 unfold fneg
 rw [Bool.eq_iff_iff, beq_iff_eq, decide_eq_true_iff]; omega
theorem ws_one {v : Int} (h0 : 0 ≤ v) (h1 : v < 18446744073709551616) : Ws [v] := ws_cons.2 ⟨⟨h0, h1⟩, ws_nil⟩
theorem val_one (v : Int) : val [v] = v.toNat := by rw [val_cons, val_nil, Nat.mul_zero, Nat.add_zero]
theorem len_one (v : Int) : [v].length < 17592186044000 := by show 1 < 17592186044000; omega
theorem dFrom_eq (x : Int) (k : Nat) (hx : Nb.W64 x) (hk : 100000000000000000 ≤ k) : dyad_From.f k x = some (fromS x) := by
 unfold dyad_From.f fromS
 have hb := Nb.ex_bd hx
 have hf := Nb.fr_bd hx
 have hi := Nb.isFin_iff hx
 have e0 : wrap64 (Go.bits .and .u64 (x / 4503599627370496) 2047) = Nb.ex x := by
  rw [Nb.and_2047 (w64_div hx)]
  exact wrapS (by unfold Nb.ex at hb; omega) (by unfold Nb.ex at hb; omega)
 rw [e0, sign_bit hx, Nb.and_frac hx]
 have ef : x % 4503599627370496 = Nb.fr x := rfl
 rw [ef]
 by_cases h : Nb.ex x = 2047
 ·rw [if_pos h, if_neg (fun c => by have := hi.1 c; omega)]
 rw [if_neg h, if_pos (hi.2 (by omega))]
 by_cases z : Nb.ex x = 0
 ·have m : Nb.mant x = Nb.fr x := by unfold Nb.mant; exact if_pos z
  have p : Nb.expo x = -1074 := by unfold Nb.expo; exact if_pos z
  rw [if_pos z, Form_eq _ _ _ k (ws_one hf.1 (by omega)) (len_one _) (by decide) (by decide) hk, bind_s, val_one, m, p]; rfl
 have m : Nb.mant x = Nb.fr x + 4503599627370496 := by unfold Nb.mant; exact if_neg z
 have p : Nb.expo x = Nb.ex x - 1075 := by unfold Nb.expo; exact if_neg z
 rw [if_neg z, Nb.or_one52 hf.1 hf.2, wrapS (by omega) (by omega), Form_eq _ _ _ k (ws_one (by omega) (by omega)) (len_one _) (by omega) (by omega) hk, bind_s, val_one, m, p]
theorem rFrom_eq (x : Int) (k : Nat) (hx : Nb.W64 x) (hk : 100000000000000000 ≤ k) : ulpref04_From.f k x = some (fromS x) := by
 unfold ulpref04_From.f fromS
 have hb := Nb.ex_bd hx
 have hf := Nb.fr_bd hx
 rw [Nb.rfinite_eq hx, bind_s, Nb.rsplit_eq hx, bind_s]
 by_cases h : Nb.isFin x
 ·rw [if_pos (decide_eq_true h), if_pos h]
  by_cases z : Nb.ex x = 0
  ·have m : Nb.mant x = Nb.fr x := by unfold Nb.mant; exact if_pos z
   have p : Nb.expo x = -1074 := by unfold Nb.expo; exact if_pos z
   have e : Nb.fr x = (((Nb.fr x).toNat : Nat) : Int) := by omega
   have hw : (Nb.fr x).toNat < 18446744073709551616 := by omega
   have hl := len_word hw
   show (if Nb.ex x > 0 then _ else ((ulpref03_Of.f k (Nb.fr x)).bind _)) = _
   rw [if_neg (by omega), e, Of_eq _ k hw (by omega), bind_s, rForm_eq _ _ _ k (ws_ofN _) (by omega) (by omega) (by omega) hk, bind_s, val_ofN, m, p]; rfl
  have m : Nb.mant x = Nb.fr x + 4503599627370496 := by unfold Nb.mant; exact if_neg z
  have p : Nb.expo x = Nb.ex x - 1075 := by unfold Nb.expo; exact if_neg z
  have e : IntKind.u64.wrap (Nb.fr x + 4503599627370496) = (((Nb.fr x + 4503599627370496).toNat : Nat) : Int) := by rw [wrapU (by omega) (by omega)]; omega
  have hw : (Nb.fr x + 4503599627370496).toNat < 18446744073709551616 := by omega
  have hl := len_word hw
  show (if Nb.ex x > 0 then ((ulpref03_Of.f k (IntKind.u64.wrap (Nb.fr x + 4503599627370496))).bind _) else _) = _
  rw [if_pos (by omega), e, Of_eq _ k hw (by omega), bind_s]
  show ((ulpref04_Form.f k (fneg x) (ofN (Nb.fr x + 4503599627370496).toNat) (wrap64 (Nb.ex x - 1075))).bind _) = _
  rw [wrapS (by omega) (by omega), rForm_eq _ _ _ k (ws_ofN _) (by omega) (by omega) (by omega) hk, bind_s, val_ofN, m, p]
 rw [if_neg (by rw [decide_eq_true_iff]; exact h), if_neg h]
def toX (o : Nat) (E : Int) : Nat := if E + (bl o : Int) - 1 < -1022 then o * 2 ^ (E + 1074).toNat else (E + (bl o : Int) + 1022).toNat * 4503599627370496 + (o * 2 ^ (53 - bl o) - 4503599627370496)
def sX (s : Bool) : Int := if s = true then 9223372036854775808 else 0
noncomputable def toS (s : Bool) (n : Nat) (e : Int) : Int × Bool :=
 if fits n e = true then (if n = 0 then (0, true) else if (bl (od n) : Int) > 53 ∨ e + (tz n : Int) + (bl (od n) : Int) - 1 > 1023 ∨ e + (tz n : Int) < -1074 then (0, false) else ((toX (od n) (e + (tz n : Int)) : Int) + sX s, true)) else (0, false)
theorem ofN_word {o : Nat} (h0 : o ≠ 0) (h : o < 18446744073709551616) : ofN o = [(o : Int)] := by
 rw [ofN_pos h0, Nat.mod_eq_of_lt h, Nat.div_eq_of_lt h, ofN_zero]
theorem bl_range {o : Nat} (h : o ≠ 0) : 2 ^ (bl o - 1) ≤ o ∧ o < 2 ^ bl o ∧ 1 ≤ bl o := by
 have a := bl_le h
 have b := bl_lt o
 have c : 1 ≤ bl o := Nat.pos_of_ne_zero (bl_ne h)
 refine ⟨?_, b, c⟩
 rw [show bl o = bl o - 1 + 1 by omega, Nat.pow_succ] at a
 omega
theorem p52 {i : Nat} (h : i ≤ 52) : 2 ^ i ≤ 4503599627370496 := Nat.le_trans (Nat.pow_le_pow_right (by decide) h) (by decide : 2 ^ 52 ≤ 4503599627370496)
theorem p53 {i : Nat} (h : i ≤ 53) : 2 ^ i ≤ 9007199254740992 := Nat.le_trans (Nat.pow_le_pow_right (by decide) h) (by decide : 2 ^ 53 ≤ 9007199254740992)
theorem to_small {o : Nat} {E : Int} (h0 : o ≠ 0) (hE : -1074 ≤ E) (hT : E + (bl o : Int) - 1 < -1022) : o * 2 ^ (E + 1074).toNat < 4503599627370496 := by
 obtain ⟨a, b, c⟩ := bl_range h0
 have : o * 2 ^ (E + 1074).toNat < 2 ^ bl o * 2 ^ (E + 1074).toNat := Nat.mul_lt_mul_of_pos_right b (Nat.pow_pos (by decide))
 rw [← Nat.pow_add] at this
 exact Nat.lt_of_lt_of_le this (p52 (by omega))
theorem to_great {o : Nat} (h0 : o ≠ 0) (hb : bl o ≤ 53) : 4503599627370496 ≤ o * 2 ^ (53 - bl o) ∧ o * 2 ^ (53 - bl o) < 9007199254740992 := by
 obtain ⟨a, b, c⟩ := bl_range h0
 constructor
 ·have : 2 ^ (bl o - 1) * 2 ^ (53 - bl o) ≤ o * 2 ^ (53 - bl o) := Nat.mul_le_mul_right _ a
  rw [← Nat.pow_add, show bl o - 1 + (53 - bl o) = 52 by omega] at this
  exact this
 have : o * 2 ^ (53 - bl o) < 2 ^ bl o * 2 ^ (53 - bl o) := Nat.mul_lt_mul_of_pos_right b (Nat.pow_pos (by decide))
 rw [← Nat.pow_add, show bl o + (53 - bl o) = 53 by omega] at this
 exact this
theorem shl_word {o d : Nat} (hd : d ≤ 64) (h : o * 2 ^ d < 18446744073709551616) : shl .u64 (o : Int) (d : Int) = ((o * 2 ^ d : Nat) : Int) := by
 rw [shl_eq o d hd, Nat.mod_eq_of_lt h]
theorem dTo_eq (s : Bool) (l : List Int) (e : Int) (k : Nat) (w : Wl l) (hk : 300000000000000000 ≤ k) : dyad_To.f k s l e = some (toS s (val l) e) := by
 unfold dyad_To.f toS
 rw [right_eq s l e k w.ws w.len (by omega), bind_s]
 by_cases f : fits (val l) e = true
 ·have g := rs_fits w.ws w.len f
  rw [if_pos f, if_pos f, One_eq s l e k g.t (by omega), bind_s]
  have gl := g.lo; have gh := g.hi; have gs := g.sm
  generalize val l = n at *
  by_cases z : n = 0
  ·rw [z, cf_zero, Zero_eq _ _ _ k ws_nil (by simp) (by omega), bind_s, if_pos (by rw [val_nil]; rfl), if_pos rfl]
  have hl := len_od n
  have t1 := tz_small z (by omega)
  have o0 := od_ne z
  have hbl := bl_len (Nat.le_trans hl gs)
  rw [cf_ne z, if_neg z, Zero_eq _ _ _ k (ws_ofN _) (by show (ofN (od n)).length < _; omega) (by omega), bind_s]
  rw [if_neg (by rw [val_ofN]; simpa using o0)]
  show ((raw_Top.f k s (ofN (od n)) (e + (tz n : Int))).bind _) = _
  rw [Top_eq _ _ _ k (ws_ofN _) (by omega) (by omega) (by omega) (by omega), bind_s]
  show ((limbs_Len.f k (ofN (od n))).bind _) = _
  rw [lLen_eq (ofN (od n)) k (ws_ofN _) (by omega) (by omega), bind_s, val_ofN]
  obtain ⟨k, rfl⟩ : ∃ m, k = m + 1 := ⟨k - 1, by omega⟩
  generalize od n = o at *
  show (if (bl o : Int) > 53 then dyad_To.j0 (k + 1) (e + (tz n : Int) + (bl o : Int) - 1) true s (ofN o) (e + (tz n : Int)) else if e + (tz n : Int) + (bl o : Int) - 1 > 1023 then dyad_To.j0 (k + 1) (e + (tz n : Int) + (bl o : Int) - 1) true s (ofN o) (e + (tz n : Int)) else dyad_To.j0 (k + 1) (e + (tz n : Int) + (bl o : Int) - 1) (decide (e + (tz n : Int) < -1074)) s (ofN o) (e + (tz n : Int))) = _
  generalize e + (tz n : Int) = E at *
  have no : dyad_To.j0 (k + 1) (E + (bl o : Int) - 1) true s (ofN o) E = some (0, false) := by simp only [dyad_To.j0]; rw [if_pos trivial]
  by_cases q1 : (bl o : Int) > 53
  ·rw [if_pos q1, if_pos (.inl q1), no]
  rw [if_neg q1]
  by_cases q2 : E + (bl o : Int) - 1 > 1023
  ·rw [if_pos q2, if_pos (.inr (.inl q2)), no]
  rw [if_neg q2]
  by_cases q3 : E < -1074
  ·rw [if_pos (.inr (.inr q3)), decide_eq_true q3, no]
  rw [if_neg (fun c => c.elim q1 (fun c => c.elim q2 q3)), decide_eq_false q3]
  obtain ⟨a, b, c⟩ := bl_range o0
  have o53 : o < 9007199254740992 := Nat.lt_of_lt_of_le b (p53 (by omega))
  rw [ofN_word o0 (by omega)]
  simp only [dyad_To.j0]
  rw [if_neg (by decide), if_pos (by show (0 : Int) < ((1 : Nat) : Int); omega), wrapS (x := E + (bl o : Int) - 1 - 52) (by omega) (by omega)]
  have hr : rd [(o : Int)] 0 = (o : Int) := rfl
  rw [hr]
  unfold toX
  by_cases T : E + (bl o : Int) - 1 < -1022
  ·have em : mx (E + (bl o : Int) - 1 - 52) (-1074) = -1074 := by unfold mx; rw [if_pos (by omega)]
   have sm := to_small o0 (by omega) T
   have ed : wrap64 (E - -1074) = (((E + 1074).toNat : Nat) : Int) := by rw [wrapS (by omega) (by omega)]; omega
   have dd : (E + 1074).toNat ≤ 64 := by omega
   rw [em, ed, if_pos (Int.natCast_nonneg _), shl_word dd (by omega), if_pos T]
   generalize o * 2 ^ (E + 1074).toNat = M at *
   rw [if_neg (by omega)]
   unfold sX
   by_cases u : s = true
   ·rw [if_pos u, if_pos u, Nb.or_sign (by omega) (by omega)]
   rw [if_neg u, if_neg u, Int.add_zero]
  have em : mx (E + (bl o : Int) - 1 - 52) (-1074) = E + (bl o : Int) - 53 := by unfold mx; rw [if_neg (by omega)]; omega
  obtain ⟨m1, m2⟩ := to_great o0 (by omega)
  have ed : wrap64 (E - (E + (bl o : Int) - 53)) = (((53 - bl o : Nat) : Nat) : Int) := by rw [wrapS (by omega) (by omega)]; omega
  have ee : IntKind.u64.wrap ((IntKind.u64.wrap (wrap64 (E + (bl o : Int) - 53 + 1075))) * 4503599627370496) = (((E + (bl o : Int) + 1022).toNat : Nat) : Int) * 4503599627370496 := by
   have e3 : E + (bl o : Int) - 53 + 1075 = (((E + (bl o : Int) + 1022).toNat : Nat) : Int) := by omega
   rw [e3, wrapS (by omega) (by omega), wrapU (x := (((E + (bl o : Int) + 1022).toNat : Nat) : Int)) (by omega) (by omega), wrapU (by omega) (by omega)]
  rw [em, ed, if_pos (Int.natCast_nonneg _), shl_word (by omega) (by omega), if_neg T, ee]
  generalize o * 2 ^ (53 - bl o) = M at *
  rw [if_pos (by omega), Nb.and_frac ⟨by omega, by omega⟩]
  have hX : (E + (bl o : Int) + 1022).toNat ≤ 2046 := by omega
  generalize (E + (bl o : Int) + 1022).toNat = X at *
  have ej : Go.bits .or .u64 ((X : Int) * 4503599627370496) ((M : Int) % 4503599627370496) = (X : Int) * 4503599627370496 + (M : Int) % 4503599627370496 :=
   Nb.or_join 52 (by omega) (by omega) (by show (X : Int) * 4503599627370496 % 4503599627370496 = 0; omega) (by omega) (by omega) (by show (M : Int) % 4503599627370496 < 4503599627370496; omega)
  rw [ej]
  unfold sX
  by_cases u : s = true
  ·rw [if_pos u, if_pos u, Nb.or_sign (by omega) (by omega)]
   refine congrArg (fun z : Int => some (z, true)) ?_
   omega
  rw [if_neg u, if_neg u]
  refine congrArg (fun z : Int => some (z, true)) ?_
  omega
 rw [if_neg f, if_neg f]
theorem Join_eq (s : Bool) (E F : Int) (k : Nat) (h0 : 0 ≤ E) (h1 : E ≤ 2047) (f0 : 0 ≤ F) (f1 : F < 4503599627370496) (hk : 1 ≤ k) : ulpref01_Join.f k s E F = some (E * 4503599627370496 + F + sX s, 0) := by
 unfold ulpref01_Join.f
 obtain ⟨k, rfl⟩ : ∃ m, k = m + 1 := ⟨k - 1, by omega⟩
 rw [if_neg (by omega), if_neg (by omega), decide_eq_false (by omega)]
 simp only [ulpref01_Join.j0]
 rw [if_neg (by decide), wrapU (x := E) (by omega) (by omega), wrapU (x := E * 4503599627370496) (by omega) (by omega), wrapU (x := E * 4503599627370496 + F) (by omega) (by omega)]
 unfold sX
 by_cases u : s = true
 ·rw [if_pos u, if_pos u, wrapU (by omega) (by omega)]
 rw [if_neg u, if_neg u, Int.add_zero]
theorem rTo_eq (s : Bool) (l : List Int) (e : Int) (k : Nat) (w : Wl l) (hk : 300000000000000000 ≤ k) : ulpref04_To.f k s l e = some (toS s (val l) e) := by
 unfold ulpref04_To.f toS
 rw [rRight_eq s l e k w.ws w.len (by omega), bind_s]
 by_cases f : fits (val l) e = true
 ·have g := rs_fits w.ws w.len f
  rw [if_pos f, if_pos f, rOne_eq s l e k g.t (by omega), bind_s]
  have gl := g.lo; have gh := g.hi; have gs := g.sm
  generalize val l = n at *
  by_cases z : n = 0
  ·rw [z, cf_zero, if_pos (show ((([] : List Int).length : Nat) : Int) = 0 from rfl), if_pos rfl]
  have hl := len_od n
  have t1 := tz_small z (by omega)
  have o0 := od_ne z
  have hbl := bl_len (Nat.le_trans hl gs)
  rw [cf_ne z, if_neg z, if_neg (show ¬ (((ofN (od n)).length : Nat) : Int) = 0 from fun c => o0 (len0.1 c))]
  show ((ulpref03_Len.f k (ofN (od n))).bind _) = _
  rw [rlen_eq (ofN (od n)) k (ws_ofN _) (by omega) (by omega), bind_s, val_ofN]
  obtain ⟨k, rfl⟩ : ∃ m, k = m + 1 := ⟨k - 1, by omega⟩
  generalize od n = o at *
  have hE : -1000000 ≤ e + (tz n : Int) ∧ e + (tz n : Int) ≤ 1000000 := by omega
  generalize e + (tz n : Int) = E at *
  have eT : wrap64 ((wrap64 (E + (bl o : Int))) - 1) = E + (bl o : Int) - 1 := by rw [wrapS (x := E + (bl o : Int)) (by omega) (by omega), wrapS (by omega) (by omega)]
  show (if (bl o : Int) > 53 then ulpref04_To.j0 (k + 1) (bl o : Int) (wrap64 ((wrap64 (E + (bl o : Int))) - 1)) true s (ofN o) E else if E < -1074 then ulpref04_To.j0 (k + 1) (bl o : Int) (wrap64 ((wrap64 (E + (bl o : Int))) - 1)) true s (ofN o) E else ulpref04_To.j0 (k + 1) (bl o : Int) (wrap64 ((wrap64 (E + (bl o : Int))) - 1)) (decide (wrap64 ((wrap64 (E + (bl o : Int))) - 1) > 1023)) s (ofN o) E) = _
  rw [eT]
  have no : ulpref04_To.j0 (k + 1) (bl o : Int) (E + (bl o : Int) - 1) true s (ofN o) E = some (0, false) := by simp only [ulpref04_To.j0]; rw [if_pos trivial]
  by_cases q1 : (bl o : Int) > 53
  ·rw [if_pos q1, if_pos (.inl q1), no]
  rw [if_neg q1]
  by_cases q3 : E < -1074
  ·rw [if_pos q3, if_pos (.inr (.inr q3)), no]
  rw [if_neg q3]
  by_cases q2 : E + (bl o : Int) - 1 > 1023
  ·rw [if_pos (.inr (.inl q2)), decide_eq_true q2, no]
  rw [if_neg (fun c => c.elim q1 (fun c => c.elim q2 q3)), decide_eq_false q2]
  obtain ⟨a, b, c⟩ := bl_range o0
  have o53 : o < 9007199254740992 := Nat.lt_of_lt_of_le b (p53 (by omega))
  rw [ofN_word o0 (by omega)]
  simp only [ulpref04_To.j0]
  have hr : rd [(o : Int)] 0 = (o : Int) := rfl
  have h1 : (0 : Int) < (([(o : Int)].length : Nat) : Int) := by show (0 : Int) < ((1 : Nat) : Int); omega
  rw [if_neg (by decide), hr]
  unfold toX
  by_cases T : E + (bl o : Int) - 1 < -1022
  ·have sm := to_small o0 (by omega) T
   have ed : IntKind.u64.wrap (wrap64 (E + 1074)) = (((E + 1074).toNat : Nat) : Int) := by rw [wrapS (by omega) (by omega), wrapU (by omega) (by omega)]; omega
   have dd : (E + 1074).toNat ≤ 64 := by omega
   rw [if_pos T, if_pos h1, ed, if_pos (Int.natCast_nonneg _), shl_word dd (by omega), if_pos T]
   generalize o * 2 ^ (E + 1074).toNat = M at *
   rw [Join_eq s 0 (M : Int) k (by omega) (by omega) (by omega) (by omega) (by omega), bind_s]
   refine congrArg (fun z : Int => some (z, true)) ?_
   omega
  obtain ⟨m1, m2⟩ := to_great o0 (by omega)
  have ed : IntKind.u64.wrap (wrap64 (53 - (bl o : Int))) = (((53 - bl o : Nat) : Nat) : Int) := by rw [wrapS (by omega) (by omega), wrapU (by omega) (by omega)]; omega
  have ee : wrap64 (E + (bl o : Int) - 1 + 1023) = (((E + (bl o : Int) + 1022).toNat : Nat) : Int) := by rw [wrapS (by omega) (by omega)]; omega
  rw [if_neg T, if_pos h1, ed, if_pos (Int.natCast_nonneg _), shl_word (by omega) (by omega), if_neg T, ee]
  have hX : (E + (bl o : Int) + 1022).toNat ≤ 2046 := by omega
  generalize (E + (bl o : Int) + 1022).toNat = X at *
  generalize o * 2 ^ (53 - bl o) = M at *
  have em : IntKind.u64.wrap ((M : Int) - 4503599627370496) = ((M - 4503599627370496 : Nat) : Int) := by rw [wrapU (by omega) (by omega)]; omega
  rw [em, Join_eq s (X : Int) ((M - 4503599627370496 : Nat) : Int) k (by omega) (by omega) (by omega) (by omega) (by omega), bind_s]
  refine congrArg (fun z : Int => some (z, true)) ?_
  omega
 rw [if_neg f, if_neg f]
end Go.Proofs.YtemfckibdojbbaaDoor.Nf

namespace Go.Proofs.YtemfckibdojbbaaDoor.Pure
open Go.RowKit Go.Proofs.YtemfckibdojbbaaDoor.PAll Go.Proofs.YtemfckibdojbbaaDoorW.PrintWords Go.Proofs.YtemfckibdojbbaaDoorW.PrintLast Go.Proofs.YtemfckibdojbbaaDoorW.PrintMore
set_option linter.unusedVariables false
set_option linter.unusedSimpArgs false
open Go.Proofs.YtemfckibdojbbaaDoor.Nm Go.Proofs.YtemfckibdojbbaaDoor.Nf
theorem wl_from (x : Int) (hx : Nb.W64 x) : Wl (fromS x).2.1 := by
 unfold fromS
 split
 ·refine wl_cf _ _ ?_
  have := Nb.mant_bd hx
  have := len_word (v := (Nb.mant x).toNat) (by omega)
  omega
 exact wl_nil
theorem DyadFloats (x : Int) (s0 : Bool) (l0 : List Int) (e0 : Int) (n : Int) (h1 : (Lit.int .u64 x).wf = true) (n0 : l0.length * 8 ≤ 140737488351232) (w0 : ∀ x ∈ l0, (Lit.int .u64 x).wf = true) (_ : (Lit.int .i64 e0).wf = true) (h2 : (Lit.int .i64 n).wf = true) : ∃ k, ulplaw04_DyadFloats.f k x s0 l0 e0 n = some true := by
 have h0 : Wl l0 := ⟨ws_wf w0, by omega⟩
 have hx := Nb.w64_of h1
 have hn := i64_wf h2
 obtain ⟨k, hk⟩ : ∃ k, k = 300000000000000000 := ⟨_, rfl⟩
 have hk0 : 300000000000000000 ≤ k := by omega
 clear hk
 refine ⟨k, ?_⟩
 have wi : Wl (cf (decide (n < 0)) n.natAbs 0).2.1 := wl_cf _ _ (by have := len_word (v := n.natAbs) (by omega); omega)
 unfold ulplaw04_DyadFloats.f
 rw [dFrom_eq x k hx (by omega), bind_s, rFrom_eq x k hx (by omega), bind_s, dTo_eq s0 l0 e0 k h0 (by omega), bind_s, rTo_eq s0 l0 e0 k h0 (by omega), bind_s, wsame _ _ k (wl_from x hx) (by omega), bind_s, if_pos rfl, if_pos rfl, if_pos rfl, if_pos (by simp), Int_eq n k hn.1 hn.2 (by omega), bind_s, rInt_eq n k hn.1 hn.2 (by omega), bind_s, wsame _ _ k wi (by omega), bind_s, if_pos rfl, begins_eq k (by omega), bind_s]
end Go.Proofs.YtemfckibdojbbaaDoor.Pure
