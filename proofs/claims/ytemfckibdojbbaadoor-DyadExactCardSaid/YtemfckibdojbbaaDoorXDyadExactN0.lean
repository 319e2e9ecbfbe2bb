/- Plain part. -/
import Derived.Test.YtemfckibdojbbaaDoorXDyadExactP0
import Derived.Test.YtemfckibdojbbaaDoorXDyadExactP15
import Derived.Laws.BitsAllLaws
import Derived.Test.YtemfckibdojbbaaDoorXDyadExactP3
import Derived.Test.YtemfckibdojbbaaDoorXDyadExactP12
import Derived.Laws.Bits64b
import Derived.Laws.Closers25b
import Derived.Test.YtemfckibdojbbaaDoorXDyadExactP7
import Derived.Test.YtemfckibdojbbaaDoorXDyadExactP4
import Derived.Test.YtemfckibdojbbaaDoorXDyadExactP10
import Derived.Test.YtemfckibdojbbaaDoorXDyadExactP8
import Derived.Test.YtemfckibdojbbaaDoorXDyadExactP2
import Derived.Test.YtemfckibdojbbaaDoorXDyadExactP1
import Derived.Test.YtemfckibdojbbaaDoorXDyadExactP9
import Derived.Test.YtemfckibdojbbaaDoorXDyadExactP6
import Derived.Laws.StructEq
namespace Go.Proofs.YtemfckibdojbbaaDoor.Nb
open Go.RowKit Go.Proofs.YtemfckibdojbbaaDoor.PAll Go.Proofs.YtemfckibdojbbaaDoorW.PrintWords Go.Proofs.YtemfckibdojbbaaDoorW.PrintLast Go.Proofs.YtemfckibdojbbaaDoorW.PrintMore
set_option linter.unusedVariables false
set_option linter.unusedSimpArgs false
def W64 (x : Int) : Prop := 0 ≤ x ∧ x < 18446744073709551616
theorem w64_of {x : Int} (h : (Lit.int .u64 x).wf = true) : W64 x := by
 simp [Lit.wf, IntKind.min, IntKind.max, IntKind.bits, IntKind.signed] at h
 unfold W64; omega
theorem wrapU {x : Int} (h0 : 0 ≤ x) (h1 : x < 18446744073709551616) : IntKind.u64.wrap x = x := by
 rw [IntKind.wrap_u64]; omega
theorem wrapS {x : Int} (h0 : -9223372036854775808 ≤ x) (h1 : x < 9223372036854775808) : wrap64 x = x := by
 unfold wrap64; omega
theorem toNat_cast {x : Int} (h : 0 ≤ x) : ((x.toNat : Nat) : Int) = x := Int.toNat_of_nonneg h
theorem and_pow {x : Int} (i : Nat) (hx : W64 x) (hi : i < 64) : Go.bits .and .u64 x (((2 ^ i : Nat) : Int)) = x / ((2 ^ i : Nat) : Int) % 2 * ((2 ^ i : Nat) : Int) := by
 have hp : (2 ^ i : Nat) < 18446744073709551616 := by
  have := Nat.pow_lt_pow_right (a := 2) (by decide) hi
  omega
 rw [u64_and x _ hx.1 hx.2 (Int.natCast_nonneg _) (by omega), Int.toNat_natCast, nat_bit]
 rw [Int.natCast_mul, Int.natCast_emod, Int.natCast_ediv, toNat_cast hx.1]; rfl
theorem and_mask {x : Int} (i : Nat) (hx : W64 x) (hi : i ≤ 64) : Go.bits .and .u64 x (((2 ^ i - 1 : Nat) : Int)) = x % ((2 ^ i : Nat) : Int) := by
 have hp : (2 ^ i : Nat) ≤ 18446744073709551616 := by
  have := Nat.pow_le_pow_right (n := 2) (by decide) hi
  omega
 have hp0 : 0 < (2 ^ i : Nat) := Nat.two_pow_pos i
 rw [u64_and x _ hx.1 hx.2 (Int.natCast_nonneg _) (by omega), Int.toNat_natCast, Nat.and_two_pow_sub_one_eq_mod, Int.natCast_emod, toNat_cast hx.1]
theorem or_pow {x : Int} (i : Nat) (hx : 0 ≤ x) (h : x < ((2 ^ i : Nat) : Int)) (hi : i < 64) : Go.bits .or .u64 x (((2 ^ i : Nat) : Int)) = x + ((2 ^ i : Nat) : Int) := by
 have hp : (2 ^ i : Nat) < 18446744073709551616 := by
  have := Nat.pow_lt_pow_right (a := 2) (by decide) hi
  omega
 rw [u64_or x _ hx (by omega) (Int.natCast_nonneg _) (by omega), Int.toNat_natCast, Nat.or_comm, nat_join i _ _ (Nat.mod_self _) (by omega), Int.natCast_add, toNat_cast hx]
 omega
theorem or_join {x y : Int} (i : Nat) (hx0 : 0 ≤ x) (hx1 : x < 18446744073709551616) (hx : x % ((2 ^ i : Nat) : Int) = 0) (hy0 : 0 ≤ y) (hy1 : y < 18446744073709551616) (h : y < ((2 ^ i : Nat) : Int)) : Go.bits .or .u64 x y = x + y := by
 have e : x.toNat % 2 ^ i = 0 := by
  have := Int.natCast_emod x.toNat (2 ^ i)
  rw [toNat_cast hx0] at this
  omega
 rw [u64_or x y hx0 hx1 hy0 hy1, nat_join i _ _ e (by omega), Int.natCast_add, toNat_cast hx0, toNat_cast hy0]
theorem and_sign {x : Int} (hx : W64 x) : Go.bits .and .u64 x 9223372036854775808 = if x < 9223372036854775808 then 0 else 9223372036854775808 := by
 have h := and_pow 63 hx (by decide)
 have e : ((2 ^ 63 : Nat) : Int) = 9223372036854775808 := by decide
 rw [e] at h; rw [h]; unfold W64 at hx
 split <;> omega
theorem and_2047 {x : Int} (hx : W64 x) : Go.bits .and .u64 x 2047 = x % 2048 := by
 have h := and_mask 11 hx (by decide)
 have e : ((2 ^ 11 : Nat) : Int) = 2048 := by decide
 have e' : ((2 ^ 11 - 1 : Nat) : Int) = 2047 := by decide
 rw [e, e'] at h; exact h
theorem and_frac {x : Int} (hx : W64 x) : Go.bits .and .u64 x 4503599627370495 = x % 4503599627370496 := by
 have h := and_mask 52 hx (by decide)
 have e : ((2 ^ 52 : Nat) : Int) = 4503599627370496 := by decide
 have e' : ((2 ^ 52 - 1 : Nat) : Int) = 4503599627370495 := by decide
 rw [e, e'] at h; exact h
theorem or_one52 {x : Int} (h0 : 0 ≤ x) (h1 : x < 4503599627370496) : Go.bits .or .u64 x 4503599627370496 = x + 4503599627370496 := by
 have e : ((2 ^ 52 : Nat) : Int) = 4503599627370496 := by decide
 have h := or_pow 52 h0 (by rw [e]; exact h1) (by decide)
 rw [e] at h; exact h
theorem or_sign {x : Int} (h0 : 0 ≤ x) (h1 : x < 9223372036854775808) : Go.bits .or .u64 x 9223372036854775808 = x + 9223372036854775808 := by
 have e : ((2 ^ 63 : Nat) : Int) = 9223372036854775808 := by decide
 have h := or_pow 63 h0 (by rw [e]; exact h1) (by decide)
 rw [e] at h; exact h
theorem andNot_sign {x : Int} (hx : W64 x) : Go.bits .andNot .u64 x 9223372036854775808 = x % 9223372036854775808 := by
 have h := and_mask 63 hx (by decide)
 have e : ((2 ^ 63 : Nat) : Int) = 9223372036854775808 := by decide
 have e' : ((2 ^ 63 - 1 : Nat) : Int) = 9223372036854775807 := by decide
 rw [e, e'] at h; rw [← h]
 rw [u64_andNot x _ hx.1 hx.2 (by decide) (by decide), u64_and x _ hx.1 hx.2 (by decide) (by decide)]
 rfl
end Go.Proofs.YtemfckibdojbbaaDoor.Nb
namespace Go.Proofs.YtemfckibdojbbaaDoor.Nb
open Go.RowKit Go.Proofs.YtemfckibdojbbaaDoor.PAll Go.Proofs.YtemfckibdojbbaaDoorW.PrintWords Go.Proofs.YtemfckibdojbbaaDoorW.PrintLast Go.Proofs.YtemfckibdojbbaaDoorW.PrintMore
set_option linter.unusedVariables false
set_option linter.unusedSimpArgs false
def am (x : Int) : Int := x % 9223372036854775808
def pl (x : Int) : Int := if x < 9223372036854775808 then x else -(x % 9223372036854775808)
def isNum (x : Int) : Prop := x % 9223372036854775808 ≤ 9218868437227405312
def isFin (x : Int) : Prop := x % 9223372036854775808 < 9218868437227405312
instance (x : Int) : Decidable (isNum x) := inferInstanceAs (Decidable (_ ≤ _))
instance (x : Int) : Decidable (isFin x) := inferInstanceAs (Decidable (_ < _))
def ex (x : Int) : Int := x / 4503599627370496 % 2048
def fr (x : Int) : Int := x % 4503599627370496
def up (x : Int) : Int := if isNum x then (if x = 9218868437227405312 then x else if x % 9223372036854775808 = 0 then 1 else if x < 9223372036854775808 then x + 1 else x - 1) else x
def down (x : Int) : Int := if isNum x then (if x = 18442240474082181120 then x else if x % 9223372036854775808 = 0 then 9223372036854775809 else if x < 9223372036854775808 then x - 1 else x + 1) else x
def mant (x : Int) : Int := if ex x = 0 then fr x else fr x + 4503599627370496
def expo (x : Int) : Int := if ex x = 0 then -1074 else ex x - 1075
def whole (x : Int) : Bool := decide (isFin x ∧ (mant x = 0 ∨ expo x ≥ 0 ∨ mant x % 2 ^ (-expo x).toNat = 0))
def odd (x : Int) : Bool := whole x && decide (expo x ≤ 0 ∧ mant x / 2 ^ (-expo x).toNat % 2 = 1)
theorem amount_eq {x : Int} (hx : W64 x) : bits_amount.f x = some (am x) := by
 unfold bits_amount.f am; rw [andNot_sign hx]
theorem number_eq {x : Int} (hx : W64 x) : bits_number.f x = some (decide (isNum x)) := by
 unfold bits_number.f; rw [amount_eq hx]; rfl
theorem place_eq {x : Int} (hx : W64 x) : bits_place.f x = some (pl x) := by
 have h0 := hx.1; have h1 := hx.2
 unfold bits_place.f; rw [amount_eq hx, and_sign hx]; simp only [Option.bind_some]; unfold pl am wrap64
 by_cases h : x < 9223372036854775808
 ·rw [if_pos h, if_pos rfl, if_pos h]; congr 1; omega
 rw [if_neg h, if_neg (by decide), if_neg h]; congr 1; omega
theorem less_eq {x y : Int} (hx : W64 x) (hy : W64 y) : bits_Less.f x y = some (decide (isNum x ∧ isNum y ∧ pl x < pl y)) := by
 unfold bits_Less.f; rw [number_eq hx, number_eq hy, place_eq hx, place_eq hy]; simp only [Option.bind_some]
 by_cases a : isNum x <;> by_cases b : isNum y <;> simp [a, b]
theorem ex_bd {x : Int} (hx : W64 x) : 0 ≤ ex x ∧ ex x ≤ 2047 := by unfold ex; omega
theorem fr_bd {x : Int} (hx : W64 x) : 0 ≤ fr x ∧ fr x < 4503599627370496 := by unfold fr; omega
theorem isFin_iff {x : Int} (hx : W64 x) : isFin x ↔ ex x < 2047 := by have := hx.1; have := hx.2; unfold isFin ex; omega
theorem mant_bd {x : Int} (hx : W64 x) : 0 ≤ mant x ∧ mant x < 9007199254740992 := by
 have c := fr_bd hx; unfold mant; split <;> omega
theorem expo_bd {x : Int} (hx : W64 x) (h : isFin x) : -1074 ≤ expo x ∧ expo x ≤ 971 := by
 have b := ex_bd hx; have := (isFin_iff hx).1 h; unfold expo; split <;> omega
theorem pow_pos (a : Nat) : (0 : Int) < 2 ^ a := by
 have := Nat.two_pow_pos a
 exact_mod_cast this
theorem shr_eq {m : Int} {n : Nat} (hn : n < 64) : shr .u64 m n = m / 2 ^ n := by
 unfold shr
 have : min ((n : Int).toNat) IntKind.u64.bits = n := by
  simp [IntKind.bits]; omega
 rw [this]
end Go.Proofs.YtemfckibdojbbaaDoor.Nb

namespace Go.Proofs.YtemfckibdojbbaaDoor.Nm
set_option linter.unusedVariables false
def val : List Int → Nat
 | [] => 0
 | w :: l => w.toNat + 18446744073709551616 * val l
def Ws (l : List Int) : Prop := ∀ x ∈ l, 0 ≤ x ∧ x < 18446744073709551616
def Nrm : List Int → Prop
 | [] => True
 | [w] => w ≠ 0
 | _ :: l => Nrm l
def ofN (n : Nat) : List Int := if n = 0 then [] else ((n % 18446744073709551616 : Nat) : Int) :: ofN (n / 18446744073709551616)
termination_by n
decreasing_by omega
theorem ofN_zero : ofN 0 = [] := by unfold ofN; simp
theorem ofN_pos {n : Nat} (h : n ≠ 0) : ofN n = ((n % 18446744073709551616 : Nat) : Int) :: ofN (n / 18446744073709551616) := by
 rw [ofN]; simp [h]
theorem ws_nil : Ws [] := fun _ h => by cases h
theorem ws_cons {w : Int} {l : List Int} : Ws (w :: l) ↔ (0 ≤ w ∧ w < 18446744073709551616) ∧ Ws l := by
 unfold Ws; simp
theorem ws_take {l : List Int} (h : Ws l) (n : Nat) : Ws (l.take n) := fun x hx => h x (List.mem_of_mem_take hx)
theorem ws_drop {l : List Int} (h : Ws l) (n : Nat) : Ws (l.drop n) := fun x hx => h x (List.mem_of_mem_drop hx)
theorem ws_set {l : List Int} (h : Ws l) (i : Nat) {w : Int} (h0 : 0 ≤ w) (h1 : w < 18446744073709551616) : Ws (l.set i w) := by
 intro x hx
 rcases List.mem_or_eq_of_mem_set hx with hx | rfl
 ·exact h x hx
 exact ⟨h0, h1⟩
theorem ws_replicate (n : Nat) : Ws (List.replicate n 0) := by
 intro x hx
 obtain ⟨_, rfl⟩ := List.mem_replicate.1 hx
 omega
theorem ws_get {l : List Int} (h : Ws l) (i : Nat) : 0 ≤ l.getD i 0 ∧ l.getD i 0 < 18446744073709551616 := by
 by_cases hi : i < l.length
 ·rw [List.getD_eq_getElem?_getD, List.getElem?_eq_getElem hi]
  exact h _ (List.getElem_mem hi)
 rw [List.getD_eq_getElem?_getD, List.getElem?_eq_none (by omega)]
 simp
theorem val_nil : val [] = 0 := rfl
theorem val_cons (w : Int) (l : List Int) : val (w :: l) = w.toNat + 18446744073709551616 * val l := rfl
theorem val_append (a b : List Int) : val (a ++ b) = val a + 18446744073709551616 ^ a.length * val b := by
 induction a with
 | nil => simp [val]
 | cons w a ih =>
  rw [List.cons_append, val_cons, val_cons, ih, List.length_cons, Nat.pow_succ, Nat.mul_add, ← Nat.add_assoc]
  congr 1
  rw [← Nat.mul_assoc, Nat.mul_comm 18446744073709551616 (18446744073709551616 ^ a.length), Nat.mul_assoc]
theorem val_replicate (n : Nat) : val (List.replicate n 0) = 0 := by
 induction n with
 | zero => rfl
 | succ n ih => rw [List.replicate_succ, val_cons, ih]; rfl
theorem val_lt {l : List Int} (h : Ws l) : val l < 18446744073709551616 ^ l.length := by
 induction l with
 | nil => simp [val]
 | cons w l ih =>
  obtain ⟨hw, hl⟩ := ws_cons.1 h
  have := ih hl
  rw [val_cons, List.length_cons, Nat.pow_succ]
  generalize 18446744073709551616 ^ l.length = p at *
  omega
theorem val_take_succ (l : List Int) (i : Nat) (hi : i < l.length) : val (l.take (i + 1)) = val (l.take i) + 18446744073709551616 ^ i * (l.getD i 0).toNat := by
 rw [List.take_succ_eq_append_getElem hi, val_append, List.length_take, Nat.min_eq_left (by omega), List.getD_eq_getElem?_getD, List.getElem?_eq_getElem hi]
 simp [val]
theorem val_take_ge (l : List Int) (i : Nat) (hi : l.length ≤ i) : val (l.take i) = val l := by rw [List.take_of_length_le hi]
theorem val_take_drop (l : List Int) (i : Nat) (hi : i ≤ l.length) : val l = val (l.take i) + 18446744073709551616 ^ i * val (l.drop i) := by
 conv => lhs; rw [← List.take_append_drop i l]
 rw [val_append, List.length_take, Nat.min_eq_left hi]
theorem val_set_take (l : List Int) (i : Nat) (w : Int) (hi : i < l.length) : val ((l.set i w).take (i + 1)) = val (l.take i) + 18446744073709551616 ^ i * w.toNat := by
 rw [val_take_succ _ _ (by rw [List.length_set]; exact hi), List.take_set_of_le (Nat.le_refl i)]
 simp [hi]
theorem getD_set_ne (l : List Int) (i j : Nat) (w : Int) (h : i ≠ j) : (l.set i w).getD j 0 = l.getD j 0 := by
 simp [List.getD_eq_getElem?_getD, List.getElem?_set_ne h]
theorem getD_set_eq (l : List Int) (i : Nat) (w : Int) (h : i < l.length) : (l.set i w).getD i 0 = w := by
 simp [List.getD_eq_getElem?_getD, h]
theorem getD_ge (l : List Int) (i : Nat) (h : l.length ≤ i) : l.getD i 0 = 0 := by
 rw [List.getD_eq_getElem?_getD, List.getElem?_eq_none h]; rfl
theorem take_succ_getD (l : List Int) (i : Nat) : val (l.take (i + 1)) = val (l.take i) + 18446744073709551616 ^ i * (l.getD i 0).toNat := by
 by_cases h : i < l.length
 ·exact val_take_succ l i h
 rw [getD_ge _ _ (by omega), val_take_ge _ _ (by omega), val_take_ge _ _ (by omega)]; simp
theorem val_ofN (n : Nat) : val (ofN n) = n := by
 induction n using Nat.strongRecOn with
 | _ n ih =>
  by_cases h : n = 0
  ·subst h; rw [ofN_zero]; rfl
  rw [ofN_pos h, val_cons, ih _ (by omega)]; simp only [Int.toNat_natCast]; omega
theorem ws_ofN (n : Nat) : Ws (ofN n) := by
 induction n using Nat.strongRecOn with
 | _ n ih =>
  by_cases h : n = 0
  ·subst h; rw [ofN_zero]; exact ws_nil
  rw [ofN_pos h]; exact ws_cons.2 ⟨by omega, ih _ (by omega)⟩
theorem nrm_pos {w : Int} {l : List Int} (hw : Ws (w :: l)) (hn : Nrm (w :: l)) : val (w :: l) ≠ 0 := by
 induction l generalizing w with
 | nil =>
  have := (ws_cons.1 hw).1
  have hn' : w ≠ 0 := hn
  rw [val_cons, val_nil]; omega
 | cons v l ih =>
  have h2 : Nrm (v :: l) := hn
  have := ih (ws_cons.1 hw).2 h2
  rw [val_cons]; omega
theorem eq_ofN {l : List Int} (hw : Ws l) (hn : Nrm l) : l = ofN (val l) := by
 induction l with
 | nil => rw [val_nil, ofN_zero]
 | cons w l ih =>
  have h0 := nrm_pos hw hn
  obtain ⟨h1, h2⟩ := ws_cons.1 hw
  rw [ofN_pos h0]
  have hl : Nrm l := by
   cases l with
   | nil => trivial
   | cons v l => exact hn
  have e1 : ((val (w :: l) % 18446744073709551616 : Nat) : Int) = w := by rw [val_cons]; omega
  have e2 : val (w :: l) / 18446744073709551616 = val l := by rw [val_cons]; omega
  rw [e1, e2, ← ih h2 hl]
theorem ofN_len (n m : Nat) : (ofN n).length ≤ m ↔ n < 18446744073709551616 ^ m := by
 induction m generalizing n with
 | zero =>
  by_cases h : n = 0
  ·subst h; rw [ofN_zero]; simp
  rw [ofN_pos h]; simp; omega
 | succ m ih =>
  by_cases h : n = 0
  ·subst h; rw [ofN_zero]; simp; exact Nat.pow_pos (by decide)
  rw [ofN_pos h, List.length_cons, Nat.pow_succ]
  have := ih (n / 18446744073709551616)
  rw [Nat.div_lt_iff_lt_mul (by decide)] at this
  omega
theorem nrm_of_last {l : List Int} {w : Int} (h : w ≠ 0) : Nrm (l ++ [w]) := by
 induction l with
 | nil => exact h
 | cons v l ih =>
  cases l with
  | nil => exact h
  | cons u l => exact ih
def cmpI (a b : Nat) : Int := if a < b then -1 else if a = b then 0 else 1
theorem pow_pos (n : Nat) : 0 < 18446744073709551616 ^ n := Nat.pow_pos (by decide)
theorem lex_lt {p a b x y : Nat} (ha : a < p) (h : x < y) : a + p * x < b + p * y := by
 have : p * (x + 1) ≤ p * y := Nat.mul_le_mul_left p h
 rw [Nat.mul_add] at this
 omega
theorem cmpI_top {p a b x y : Nat} (ha : a < p) (hb : b < p) : cmpI (a + p * x) (b + p * y) = if x < y then -1 else if x > y then 1 else cmpI a b := by
 unfold cmpI
 by_cases h : x < y
 ·have := lex_lt (b := b) ha h
  rw [if_pos this, if_pos h]
 rw [if_neg h]
 by_cases g : x > y
 ·have := lex_lt (b := a) hb g
  rw [if_neg (by omega), if_neg (by omega), if_pos g]
 have : x = y := by omega
 subst this
 rw [if_neg g]
 by_cases c : a < b
 ·rw [if_pos c, if_pos (by omega)]
 rw [if_neg c, if_neg (by omega)]
 by_cases d : a = b
 ·rw [if_pos d, if_pos (by omega)]
 rw [if_neg d, if_neg (by omega)]
theorem cmpI_len {a b : Nat} (h : (ofN a).length < (ofN b).length) : a < b := by
 have h1 := (ofN_len a (ofN a).length).1 (Nat.le_refl _)
 have h2 : ¬ b < 18446744073709551616 ^ (ofN a).length := fun g => by
  have := (ofN_len b (ofN a).length).2 g
  omega
 omega
def big : Nat := 18446744073709551616 ^ 1024
theorem ofN_big (v : Nat) : (ofN v).length ≤ 1024 ↔ v < big := by unfold big; exact ofN_len v 1024
end Go.Proofs.YtemfckibdojbbaaDoor.Nm

namespace Go.Proofs.YtemfckibdojbbaaDoor.Nm
set_option linter.unusedVariables false
def bl (n : Nat) : Nat := if n = 0 then 0 else bl (n / 2) + 1
termination_by n
decreasing_by omega
theorem bl_zero : bl 0 = 0 := by unfold bl; simp
theorem bl_pos {n : Nat} (h : n ≠ 0) : bl n = bl (n / 2) + 1 := by rw [bl]; simp [h]
theorem bl_spec (n : Nat) : n < 2 ^ bl n ∧ (n ≠ 0 → 2 ^ bl n ≤ 2 * n) := by
 induction n using Nat.strongRecOn with
 | _ n ih =>
  by_cases h : n = 0
  ·subst h; rw [bl_zero]; simp
  obtain ⟨a, b⟩ := ih (n / 2) (by omega)
  rw [bl_pos h, Nat.pow_succ]
  refine ⟨by omega, fun _ => ?_⟩
  by_cases g : n / 2 = 0
  ·rw [g, bl_zero]; omega
  have := b g; omega
theorem bl_lt (n : Nat) : n < 2 ^ bl n := (bl_spec n).1
theorem bl_le {n : Nat} (h : n ≠ 0) : 2 ^ bl n ≤ 2 * n := (bl_spec n).2 h
theorem bl_ne {n : Nat} (h : n ≠ 0) : bl n ≠ 0 := by rw [bl_pos h]; omega
theorem bl_unique {n m : Nat} (h : 2 ^ m ≤ n) (g : n < 2 ^ (m + 1)) : bl n = m + 1 := by
 have hn : n ≠ 0 := by have : 0 < 2 ^ m := Nat.pow_pos (by decide); omega
 have a := bl_lt n; have b := bl_le hn
 have c : m < bl n := (Nat.pow_lt_pow_iff_right (a := 2) (by decide)).1 (by omega)
 have d : bl n < m + 2 := (Nat.pow_lt_pow_iff_right (a := 2) (by decide)).1 (by rw [Nat.pow_succ] at *; omega)
 omega
theorem bl_le_iff {n m : Nat} : bl n ≤ m ↔ n < 2 ^ m := by
 constructor
 ·intro h; exact Nat.lt_of_lt_of_le (bl_lt n) (Nat.pow_le_pow_right (by decide) h)
 intro h
 by_cases g : n = 0
 ·rw [g, bl_zero]; omega
 have b := bl_le g
 have : bl n < m + 1 := (Nat.pow_lt_pow_iff_right (a := 2) (by decide)).1 (by rw [Nat.pow_succ]; omega)
 omega
theorem bl_shl {n : Nat} (h : n ≠ 0) (m : Nat) : bl (n * 2 ^ m) = bl n + m := by
 have a := bl_lt n; have b := bl_le h; have c := bl_ne h
 have e : bl n + m = (bl n - 1 + m) + 1 := by omega
 have e2 : bl n = (bl n - 1) + 1 := by omega
 rw [e]
 apply bl_unique
 ·rw [e2, Nat.pow_succ] at b
  rw [Nat.pow_add]; exact Nat.mul_le_mul_right _ (by omega)
 rw [← e, Nat.pow_add]; exact Nat.mul_lt_mul_of_pos_right a (Nat.pow_pos (by decide))
theorem bl_mono {a b : Nat} (h : a ≤ b) : bl a ≤ bl b := bl_le_iff.2 (Nat.lt_of_le_of_lt h (bl_lt b))
theorem bl_top {v w m : Nat} (hv : v < 18446744073709551616 ^ m) (hw : w ≠ 0) : bl (v + 18446744073709551616 ^ m * w) = 64 * m + bl w := by
 have a := bl_lt w; have b := bl_le hw; have c := bl_ne hw
 have e : (18446744073709551616 : Nat) ^ m = 2 ^ (64 * m) := by rw [Nat.pow_mul]
 rw [e] at hv ⊢
 have e3 : 64 * m + bl w = (64 * m + (bl w - 1)) + 1 := by omega
 rw [e3]
 apply bl_unique
 ·have : 2 ^ (64 * m) * 2 ^ (bl w - 1) ≤ 2 ^ (64 * m) * w := by
   refine Nat.mul_le_mul_left _ ?_
   have e2 : bl w = (bl w - 1) + 1 := by omega
   rw [e2, Nat.pow_succ] at b; omega
  rw [Nat.pow_add]; omega
 rw [← e3, Nat.pow_add]
 have : 2 ^ (64 * m) * (w + 1) ≤ 2 ^ (64 * m) * 2 ^ bl w := Nat.mul_le_mul_left _ (by omega)
 rw [Nat.mul_add] at this; omega
theorem shr_step {S T P x0 X a c r B lo : Nat} (hB : S * T = B) (hr : r = a / S + T * (c % S)) (hv : S * lo + x0 = X + P * (a % S)) : S * (lo + P * r) + x0 = X + P * a + P * B * (c % S) := by
 have e := Nat.div_add_mod a S
 rw [hr, Nat.mul_add, Nat.mul_add P, Nat.mul_add, ← hB]
 have e2 : S * (P * (a / S)) + P * (a % S) = P * a := by rw [← Nat.mul_assoc, Nat.mul_comm S P, Nat.mul_assoc, ← Nat.mul_add, e]
 have e3 : S * (P * (T * (c % S))) = P * (S * T) * (c % S) := by
  rw [← Nat.mul_assoc S P, Nat.mul_comm S P, Nat.mul_assoc, ← Nat.mul_assoc S T, ← Nat.mul_assoc P]
 rw [e3]; omega
theorem shr_end {S r x0 X : Nat} (h0 : x0 < S) (h : S * r + x0 = X) : r = X / S ∧ x0 = X % S := by
 subst h
 constructor
 ·rw [Nat.mul_add_div (by omega), Nat.div_eq_of_lt h0]; rfl
 rw [Nat.mul_add_mod, Nat.mod_eq_of_lt h0]
theorem shr_all {P S t X v : Nat} (ht : t < P) (hv : v = t + P * X) : v / (P * S) = X / S ∧ v % (P * S) = t + P * (X % S) := by
 have hp : 0 < P := by omega
 subst hv
 have e : (t + P * X) / P = X := by rw [Nat.add_mul_div_left _ _ hp, Nat.div_eq_of_lt ht]; omega
 have e2 : (t + P * X) % P = t := by rw [Nat.add_mul_mod_self_left, Nat.mod_eq_of_lt ht]
 constructor
 ·rw [← Nat.div_div_eq_div_mul, e]
 rw [Nat.mod_mul, e, e2]
theorem ofN_ne {v : Nat} : ofN v = [] ↔ v = 0 := by
 constructor
 ·intro h; have := val_ofN v; rw [h] at this; exact this.symm
 intro h; rw [h, ofN_zero]
end Go.Proofs.YtemfckibdojbbaaDoor.Nm

namespace Go.Proofs.YtemfckibdojbbaaDoor.Nm
set_option linter.unusedVariables false
theorem val_drop (l : List Int) (i : Nat) (h : i < l.length) : val (l.drop i) = (l.getD i 0).toNat + 18446744073709551616 * val (l.drop (i + 1)) := by
 rw [List.drop_eq_getElem_cons h, val_cons, List.getD_eq_getElem?_getD, List.getElem?_eq_getElem h]; rfl
end Go.Proofs.YtemfckibdojbbaaDoor.Nm

namespace Go.Proofs.YtemfckibdojbbaaDoor.Nf
open Go.RowKit Go.Proofs.YtemfckibdojbbaaDoor.PAll Go.Proofs.YtemfckibdojbbaaDoorW.PrintWords Go.Proofs.YtemfckibdojbbaaDoorW.PrintLast Go.Proofs.YtemfckibdojbbaaDoorW.PrintMore Go.Proofs.YtemfckibdojbbaaDoor.Nm
set_option linter.unusedVariables false
set_option linter.unusedSimpArgs false
theorem wrapU {x : Int} (h0 : 0 ≤ x) (h1 : x < 18446744073709551616) : IntKind.u64.wrap x = x := by
 rw [IntKind.wrap_u64]; omega
theorem wrapS {x : Int} (h0 : -9223372036854775808 ≤ x) (h1 : x < 9223372036854775808) : wrap64 x = x := by
 unfold wrap64; omega
theorem rd_nat (l : List Int) (j : Nat) : rd l (j : Int) = l.getD j 0 := by simp [rd]
theorem bind_s {α β : Type} (a : α) (f : α → Option β) : (some a).bind f = f a := by simp
end Go.Proofs.YtemfckibdojbbaaDoor.Nf
namespace Go.Proofs.YtemfckibdojbbaaDoor.Nf
open Go.RowKit Go.Proofs.YtemfckibdojbbaaDoor.PAll Go.Proofs.YtemfckibdojbbaaDoorW.PrintWords Go.Proofs.YtemfckibdojbbaaDoorW.PrintLast Go.Proofs.YtemfckibdojbbaaDoorW.PrintMore Go.Proofs.YtemfckibdojbbaaDoor.Nm
set_option linter.unusedVariables false
set_option linter.unusedSimpArgs false
theorem ofN_take {l : List Int} (hw : Ws l) {j : Nat} (hj : j < l.length) (h : l.getD j 0 ≠ 0) : l.take (j + 1) = ofN (val (l.take (j + 1))) := by
 refine eq_ofN (ws_take hw _) ?_
 rw [List.take_succ_eq_append_getElem hj]
 refine nrm_of_last ?_
 rwa [List.getD_eq_getElem?_getD, List.getElem?_eq_getElem hj] at h
theorem val_take_lt {l : List Int} (h : Ws l) (j : Nat) : val (l.take j) < 18446744073709551616 ^ j := by
 have a := val_lt (ws_take h j)
 refine Nat.lt_of_lt_of_le a (Nat.pow_le_pow_right (by decide) ?_)
 rw [List.length_take]; omega
theorem wrap_succ {j : Nat} (h : j < 4611686018427387904) : wrap64 ((j : Int) + 1) = ((j + 1 : Nat) : Int) := by rw [wrapS (by omega) (by omega)]; omega
theorem ofN_len_le {a b : Nat} (h : b ≤ a) : (ofN b).length ≤ (ofN a).length := by
 rcases Nat.lt_or_ge (ofN a).length (ofN b).length with g | g
 ·have := cmpI_len g; omega
 exact g
theorem len_big {a : Nat} (ha : a < big) : (ofN a).length ≤ 1024 := (ofN_big a).2 ha
end Go.Proofs.YtemfckibdojbbaaDoor.Nf
namespace Go.Proofs.YtemfckibdojbbaaDoor.Nf
open Go.RowKit Go.Proofs.YtemfckibdojbbaaDoor.PAll Go.Proofs.YtemfckibdojbbaaDoorW.PrintWords Go.Proofs.YtemfckibdojbbaaDoorW.PrintLast Go.Proofs.YtemfckibdojbbaaDoorW.PrintMore Go.Proofs.YtemfckibdojbbaaDoor.Nm
set_option linter.unusedVariables false
set_option linter.unusedSimpArgs false
theorem toNat_pow2 (s : Nat) : ((2 : Int) ^ s) = ((2 ^ s : Nat) : Int) := by simp
theorem shl_eq (w s : Nat) (hs : s ≤ 64) : shl .u64 (w : Int) (s : Int) = ((w * 2 ^ s % 18446744073709551616 : Nat) : Int) := by
 unfold shl
 rw [Int.toNat_natCast, Nat.min_eq_left (show s ≤ IntKind.u64.bits from hs), IntKind.wrap_u64, toNat_pow2, ← Int.natCast_mul]; rfl
theorem shr_eq (w s : Nat) (hs : s ≤ 64) : shr .u64 (w : Int) (s : Int) = ((w / 2 ^ s : Nat) : Int) := by
 unfold shr
 rw [Int.toNat_natCast, Nat.min_eq_left (show s ≤ IntKind.u64.bits from hs), toNat_pow2]
 rfl
theorem pow_split {s : Nat} (hs : s ≤ 64) : 2 ^ s * 2 ^ (64 - s) = 18446744073709551616 := by
 rw [← Nat.pow_add, Nat.add_sub_cancel' hs]
theorem or_add (a s c : Nat) (hc : c < 2 ^ s) : 2 ^ s * a ||| c = 2 ^ s * a + c := (Nat.two_pow_add_eq_or_of_lt hc a).symm
theorem shl_parts {w s : Nat} (hs : s ≤ 64) : w * 2 ^ s % 18446744073709551616 = 2 ^ s * (w % 2 ^ (64 - s)) ∧ w * 2 ^ s = w * 2 ^ s % 18446744073709551616 + 18446744073709551616 * (w / 2 ^ (64 - s)) := by
 have e : w * 2 ^ s % 18446744073709551616 = 2 ^ s * (w % 2 ^ (64 - s)) := by
  rw [← pow_split hs, Nat.mul_comm w, Nat.mul_mod_mul_left]
 refine ⟨e, ?_⟩
 have := Nat.div_add_mod w (2 ^ (64 - s))
 rw [e, ← pow_split hs, Nat.mul_assoc, ← Nat.mul_add, Nat.add_comm, this, Nat.mul_comm]
theorem or_shl' {w s c : Nat} (hs : s ≤ 64) (hc : c < 2 ^ s) : Go.bits .or .u64 (c : Int) (shl .u64 (w : Int) (s : Int)) = ((w * 2 ^ s % 18446744073709551616 + c : Nat) : Int) := by
 have h2 : 2 ^ s ≤ 18446744073709551616 := by rw [← pow_split hs]; exact Nat.le_mul_of_pos_right _ (Nat.pow_pos (by decide))
 rw [shl_eq w s hs, u64_or_nat _ _ (by omega) (Nat.mod_lt _ (by decide)), Nat.or_comm, (shl_parts hs).1, or_add _ _ _ hc]
theorem or_shl_lt {w s c : Nat} (hs : s ≤ 64) (hc : c < 2 ^ s) : w * 2 ^ s % 18446744073709551616 + c < 18446744073709551616 := by
 rw [(shl_parts hs).1]
 have : w % 2 ^ (64 - s) < 2 ^ (64 - s) := Nat.mod_lt _ (Nat.pow_pos (by decide))
 have := Nat.mul_le_mul_left (2 ^ s) this
 rw [pow_split hs, Nat.mul_succ] at this
 omega
theorem shr_up_lt {w s : Nat} (hs : s ≤ 64) (hw : w < 18446744073709551616) : w / 2 ^ (64 - s) < 2 ^ s := by
 rw [Nat.div_lt_iff_lt_mul (Nat.pow_pos (by decide)), pow_split hs]; exact hw
theorem pow_parts (n : Nat) : 2 ^ n = 18446744073709551616 ^ (n / 64) * 2 ^ (n % 64) := by
 have e : 2 ^ n = 2 ^ (64 * (n / 64) + n % 64) := by rw [Nat.div_add_mod]
 rw [e, Nat.pow_add, Nat.pow_mul]
theorem shl_step {P Q vo c V S w lo d B : Nat} (e : w * S = lo + B * d) (hv : vo + P * Q * c = P * (V * S)) : vo + P * Q * (lo + c) + P * Q * B * d = P * ((V + Q * w) * S) := by
 rw [Nat.add_mul, Nat.mul_add P, ← hv, Nat.mul_assoc Q w S, e, ← Nat.mul_assoc P Q (lo + B * d), Nat.mul_add, Nat.mul_add, Nat.mul_assoc (P * Q) B d]
 omega
theorem asNat {x : Int} (h : 0 ≤ x) : x = ((x.toNat : Nat) : Int) := by omega
theorem val_set2 (o : List Int) (i x y : Nat) (hi : i + 1 < o.length) : val (((o.set i (x : Int)).set (i + 1) (y : Int)).take (i + 2)) = val (o.take i) + 18446744073709551616 ^ i * x + 18446744073709551616 ^ (i + 1) * y := by
 rw [val_set_take _ _ _ (by rw [List.length_set]; exact hi), val_set_take _ _ _ (by omega), Int.toNat_natCast, Int.toNat_natCast]
end Go.Proofs.YtemfckibdojbbaaDoor.Nf
namespace Go.Proofs.YtemfckibdojbbaaDoor.Nf
open Go.RowKit Go.Proofs.YtemfckibdojbbaaDoor.PAll Go.Proofs.YtemfckibdojbbaaDoorW.PrintWords Go.Proofs.YtemfckibdojbbaaDoorW.PrintLast Go.Proofs.YtemfckibdojbbaaDoorW.PrintMore Go.Proofs.YtemfckibdojbbaaDoor.Nm
set_option linter.unusedVariables false
set_option linter.unusedSimpArgs false
theorem or_shr {w w' s : Nat} (h0 : 0 < s) (hs : s < 64) (hw : w < 18446744073709551616) : Go.bits .or .u64 ((w / 2 ^ s : Nat) : Int) (shl .u64 (w' : Int) ((64 - s : Nat) : Int)) = ((w / 2 ^ s + 2 ^ (64 - s) * (w' % 2 ^ s) : Nat) : Int) := by
 have hc : w / 2 ^ s < 2 ^ (64 - s) := by
  rw [Nat.div_lt_iff_lt_mul (Nat.pow_pos (by decide)), Nat.mul_comm, pow_split (show s ≤ 64 by omega)]; exact hw
 rw [or_shl' (show 64 - s ≤ 64 by omega) hc, (shl_parts (w := w') (s := 64 - s) (by omega)).1]
 have e : 64 - (64 - s) = s := by omega
 rw [e, Nat.add_comm]
theorem shr_word_lt {w c s : Nat} (hs : s ≤ 64) (hw : w < 18446744073709551616) : w / 2 ^ s + 2 ^ (64 - s) * (c % 2 ^ s) < 18446744073709551616 := by
 have h1 : w / 2 ^ s < 2 ^ (64 - s) := by
  rw [Nat.div_lt_iff_lt_mul (Nat.pow_pos (by decide)), Nat.mul_comm, pow_split hs]; exact hw
 have h2 : c % 2 ^ s < 2 ^ s := Nat.mod_lt _ (Nat.pow_pos (by decide))
 have h3 := Nat.mul_le_mul_left (2 ^ (64 - s)) h2
 rw [Nat.mul_succ, Nat.mul_comm _ (2 ^ s), pow_split hs] at h3
 omega
theorem low_mod {w c s : Nat} (hs : s ≤ 64) : (w + 18446744073709551616 * c) % 2 ^ s = w % 2 ^ s := by
 rw [← pow_split hs, Nat.mul_assoc, Nat.add_mul_mod_self_left]
theorem val_mod (l : List Int) {s : Nat} (hs : s ≤ 64) : val l % 2 ^ s = (l.getD 0 0).toNat % 2 ^ s := by
 cases l with
 | nil => simp [val]
 | cons w l => rw [val_cons, low_mod hs]; rfl
theorem getD_drop (l : List Int) (q j : Nat) : (l.drop q).getD j 0 = l.getD (j + q) 0 := by
 rw [List.getD_eq_getElem?_getD, List.getD_eq_getElem?_getD, List.getElem?_drop, Nat.add_comm]
theorem shr_parts {a : List Int} (ha : Ws a) {q s : Nat} (hs : s < 64) (hq : q ≤ a.length) :
  val a / 2 ^ (64 * q + s) = val (a.drop q) / 2 ^ s ∧ (val a % 2 ^ (64 * q + s) ≠ 0 ↔ val (a.take q) ≠ 0 ∨ (a.getD q 0).toNat % 2 ^ s ≠ 0) := by
 have e : 2 ^ (64 * q + s) = 18446744073709551616 ^ q * 2 ^ s := by rw [Nat.pow_add, Nat.pow_mul]
 have ht := val_take_lt ha q
 obtain ⟨h1, h2⟩ := shr_all (S := 2 ^ s) ht (val_take_drop a q hq)
 rw [e, h1, h2, val_mod _ (by omega), getD_drop, Nat.zero_add]
 refine ⟨rfl, ?_⟩
 have hp := pow_pos q
 constructor
 ·intro h
  by_cases g : val (a.take q) = 0
  ·right; intro z; rw [g, z] at h; exact h rfl
  exact .inl g
 rintro (h | h)
 ·omega
 have : 0 < 18446744073709551616 ^ q * ((a.getD q 0).toNat % 2 ^ s) := Nat.mul_pos hp (by omega)
 omega
end Go.Proofs.YtemfckibdojbbaaDoor.Nf
namespace Go.Proofs.YtemfckibdojbbaaDoor.Nf
open Go.RowKit Go.Proofs.YtemfckibdojbbaaDoor.PAll Go.Proofs.YtemfckibdojbbaaDoorW.PrintWords Go.Proofs.YtemfckibdojbbaaDoorW.PrintLast Go.Proofs.YtemfckibdojbbaaDoorW.PrintMore Go.Proofs.YtemfckibdojbbaaDoor.Nm
set_option linter.unusedVariables false
set_option linter.unusedSimpArgs false
theorem bl_word {w : Nat} (h : w < 18446744073709551616) : bl w ≤ 64 := bl_le_iff.2 h
theorem ofN_last {v : Nat} (h : v ≠ 0) : ∃ m t w : Nat, (ofN v).length = m + 1 ∧ v = t + 18446744073709551616 ^ m * w ∧ t < 18446744073709551616 ^ m ∧ w ≠ 0 ∧ w < 18446744073709551616 ∧ (ofN v).getD m 0 = (w : Int) := by
 have hl : ofN v ≠ [] := fun z => h (ofN_ne.1 z)
 have hp := List.length_pos_iff.2 hl
 obtain ⟨m, hm⟩ : ∃ m, (ofN v).length = m + 1 := ⟨(ofN v).length - 1, by omega⟩
 have hv := val_take_succ (ofN v) m (by omega)
 rw [val_take_ge _ _ (by omega), val_ofN] at hv
 obtain ⟨p0, p1⟩ := ws_get (ws_ofN v) m
 have ht := val_take_lt (ws_ofN v) m
 refine ⟨m, _, ((ofN v).getD m 0).toNat, hm, hv, ht, ?_, by omega, by omega⟩
 intro z
 rw [z, Nat.mul_zero, Nat.add_zero] at hv
 have := (ofN_len v m).2 (by omega)
 omega
theorem len_bl {v : Nat} (h : v ≠ 0) : ∃ m w : Nat, (ofN v).length = m + 1 ∧ bl v = 64 * m + bl w ∧ w ≠ 0 ∧ w < 18446744073709551616 ∧ (ofN v).getD m 0 = (w : Int) := by
 obtain ⟨m, t, w, h1, h2, h3, h4, h5, h6⟩ := ofN_last h
 refine ⟨m, w, h1, ?_, h4, h5, h6⟩
 rw [h2, bl_top h3 h4]
theorem getD_rep (n i : Nat) : (List.replicate n (0 : Int)).getD i 0 = 0 := by
 rw [List.getD_eq_getElem?_getD, List.getElem?_replicate]; split <;> rfl
end Go.Proofs.YtemfckibdojbbaaDoor.Nf
namespace Go.Proofs.YtemfckibdojbbaaDoor.Nf
open Go.RowKit Go.Proofs.YtemfckibdojbbaaDoor.PAll Go.Proofs.YtemfckibdojbbaaDoorW.PrintWords Go.Proofs.YtemfckibdojbbaaDoorW.PrintLast Go.Proofs.YtemfckibdojbbaaDoorW.PrintMore Go.Proofs.YtemfckibdojbbaaDoor.Nm
set_option linter.unusedVariables false
set_option linter.unusedSimpArgs false
theorem ofN_zero_iff {v : Nat} : (ofN v).length = 0 ↔ v = 0 := by rw [List.length_eq_zero_iff, ofN_ne]
end Go.Proofs.YtemfckibdojbbaaDoor.Nf
namespace Go.Proofs.YtemfckibdojbbaaDoor.Nf
open Go.RowKit Go.Proofs.YtemfckibdojbbaaDoor.PAll Go.Proofs.YtemfckibdojbbaaDoorW.PrintWords Go.Proofs.YtemfckibdojbbaaDoorW.PrintLast Go.Proofs.YtemfckibdojbbaaDoorW.PrintMore Go.Proofs.YtemfckibdojbbaaDoor.Nm
set_option linter.unusedVariables false
set_option linter.unusedSimpArgs false
theorem divN (x n : Nat) : (x : Int) / (n : Int) = ((x / n : Nat) : Int) := (Int.natCast_ediv x n).symm
theorem len8_fit : ∀ i : Fin 256, (i.val = 0 ∧ bt (⟨#[0, 1, 2, 2, 3, 3, 3, 3, 4, 4, 4, 4, 4, 4, 4, 4, 5, 5, 5, 5, 5, 5, 5, 5, 5, 5, 5, 5, 5, 5, 5, 5, 6, 6, 6, 6, 6, 6, 6, 6, 6, 6, 6, 6, 6, 6, 6, 6, 6, 6, 6, 6, 6, 6, 6, 6, 6, 6, 6, 6, 6, 6, 6, 6, 7, 7, 7, 7, 7, 7, 7, 7, 7, 7, 7, 7, 7, 7, 7, 7, 7, 7, 7, 7, 7, 7, 7, 7, 7, 7, 7, 7, 7, 7, 7, 7, 7, 7, 7, 7, 7, 7, 7, 7, 7, 7, 7, 7, 7, 7, 7, 7, 7, 7, 7, 7, 7, 7, 7, 7, 7, 7, 7, 7, 7, 7, 7, 7, 8, 8, 8, 8, 8, 8, 8, 8, 8, 8, 8, 8, 8, 8, 8, 8, 8, 8, 8, 8, 8, 8, 8, 8, 8, 8, 8, 8, 8, 8, 8, 8, 8, 8, 8, 8, 8, 8, 8, 8, 8, 8, 8, 8, 8, 8, 8, 8, 8, 8, 8, 8, 8, 8, 8, 8, 8, 8, 8, 8, 8, 8, 8, 8, 8, 8, 8, 8, 8, 8, 8, 8, 8, 8, 8, 8, 8, 8, 8, 8, 8, 8, 8, 8, 8, 8, 8, 8, 8, 8, 8, 8, 8, 8, 8, 8, 8, 8, 8, 8, 8, 8, 8, 8, 8, 8, 8, 8, 8, 8, 8, 8, 8, 8, 8, 8, 8, 8, 8, 8, 8, 8, 8, 8, 8, 8, 8, 8]⟩ : ByteArray) (i.val : Int) = 0) ∨
  ∃ t : Fin 8, 2 ^ t.val ≤ i.val ∧ i.val < 2 ^ (t.val + 1) ∧ bt (⟨#[0, 1, 2, 2, 3, 3, 3, 3, 4, 4, 4, 4, 4, 4, 4, 4, 5, 5, 5, 5, 5, 5, 5, 5, 5, 5, 5, 5, 5, 5, 5, 5, 6, 6, 6, 6, 6, 6, 6, 6, 6, 6, 6, 6, 6, 6, 6, 6, 6, 6, 6, 6, 6, 6, 6, 6, 6, 6, 6, 6, 6, 6, 6, 6, 7, 7, 7, 7, 7, 7, 7, 7, 7, 7, 7, 7, 7, 7, 7, 7, 7, 7, 7, 7, 7, 7, 7, 7, 7, 7, 7, 7, 7, 7, 7, 7, 7, 7, 7, 7, 7, 7, 7, 7, 7, 7, 7, 7, 7, 7, 7, 7, 7, 7, 7, 7, 7, 7, 7, 7, 7, 7, 7, 7, 7, 7, 7, 7, 8, 8, 8, 8, 8, 8, 8, 8, 8, 8, 8, 8, 8, 8, 8, 8, 8, 8, 8, 8, 8, 8, 8, 8, 8, 8, 8, 8, 8, 8, 8, 8, 8, 8, 8, 8, 8, 8, 8, 8, 8, 8, 8, 8, 8, 8, 8, 8, 8, 8, 8, 8, 8, 8, 8, 8, 8, 8, 8, 8, 8, 8, 8, 8, 8, 8, 8, 8, 8, 8, 8, 8, 8, 8, 8, 8, 8, 8, 8, 8, 8, 8, 8, 8, 8, 8, 8, 8, 8, 8, 8, 8, 8, 8, 8, 8, 8, 8, 8, 8, 8, 8, 8, 8, 8, 8, 8, 8, 8, 8, 8, 8, 8, 8, 8, 8, 8, 8, 8, 8, 8, 8, 8, 8, 8, 8, 8, 8]⟩ : ByteArray) (i.val : Int) = ((t.val + 1 : Nat) : Int) := by decide +kernel
def len8 : ByteArray := ⟨#[0, 1, 2, 2, 3, 3, 3, 3, 4, 4, 4, 4, 4, 4, 4, 4, 5, 5, 5, 5, 5, 5, 5, 5, 5, 5, 5, 5, 5, 5, 5, 5, 6, 6, 6, 6, 6, 6, 6, 6, 6, 6, 6, 6, 6, 6, 6, 6, 6, 6, 6, 6, 6, 6, 6, 6, 6, 6, 6, 6, 6, 6, 6, 6, 7, 7, 7, 7, 7, 7, 7, 7, 7, 7, 7, 7, 7, 7, 7, 7, 7, 7, 7, 7, 7, 7, 7, 7, 7, 7, 7, 7, 7, 7, 7, 7, 7, 7, 7, 7, 7, 7, 7, 7, 7, 7, 7, 7, 7, 7, 7, 7, 7, 7, 7, 7, 7, 7, 7, 7, 7, 7, 7, 7, 7, 7, 7, 7, 8, 8, 8, 8, 8, 8, 8, 8, 8, 8, 8, 8, 8, 8, 8, 8, 8, 8, 8, 8, 8, 8, 8, 8, 8, 8, 8, 8, 8, 8, 8, 8, 8, 8, 8, 8, 8, 8, 8, 8, 8, 8, 8, 8, 8, 8, 8, 8, 8, 8, 8, 8, 8, 8, 8, 8, 8, 8, 8, 8, 8, 8, 8, 8, 8, 8, 8, 8, 8, 8, 8, 8, 8, 8, 8, 8, 8, 8, 8, 8, 8, 8, 8, 8, 8, 8, 8, 8, 8, 8, 8, 8, 8, 8, 8, 8, 8, 8, 8, 8, 8, 8, 8, 8, 8, 8, 8, 8, 8, 8, 8, 8, 8, 8, 8, 8, 8, 8, 8, 8, 8, 8, 8, 8, 8, 8, 8, 8]⟩
theorem len8_eq (i : Nat) (h : i < 256) : bt len8 (i : Int) = (bl i : Int) := by
 rcases len8_fit ⟨i, h⟩ with ⟨h1, h2⟩ | ⟨t, h1, h2, h3⟩
 ·have h1' : i = 0 := h1
  subst h1'
  rw [bl_zero]; exact h2
 rw [bl_unique h1 h2]; exact h3
theorem bl_shift {w t : Nat} (h : 2 ^ t ≤ w) : bl w = bl (w / 2 ^ t) + t := by
 have hp : 0 < 2 ^ t := Nat.pow_pos (by decide)
 have hn : w / 2 ^ t ≠ 0 := by
  have := (Nat.le_div_iff_mul_le hp (x := 1) (y := w)).2 (by omega)
  omega
 have a := bl_lt (w / 2 ^ t); have b := bl_le hn; have c := bl_ne hn
 have d := Nat.div_add_mod w (2 ^ t)
 have e := Nat.mod_lt w hp
 have e2 : bl (w / 2 ^ t) + t = (bl (w / 2 ^ t) - 1 + t) + 1 := by omega
 rw [e2]
 apply bl_unique
 ·have : bl (w / 2 ^ t) = (bl (w / 2 ^ t) - 1) + 1 := by omega
  rw [this, Nat.pow_succ] at b
  rw [Nat.pow_add, Nat.mul_comm]
  exact Nat.le_trans (Nat.mul_le_mul_left (2 ^ t) (show 2 ^ (bl (w / 2 ^ t) - 1) ≤ w / 2 ^ t by omega)) (Nat.mul_div_le w (2 ^ t))
 rw [← e2, Nat.pow_add]
 exact (Nat.div_lt_iff_lt_mul hp).1 a
set_option maxRecDepth 100000 in
theorem Len64_j0 (k w m : Nat) (hw : w < 4294967296) (hm : m ≤ 32) : bits_Len64.j0 (k + 1) w m = some ((m + bl w : Nat) : Int) := by
 have q16 : wrap64 ((m : Int) + 16) = ((m + 16 : Nat) : Int) := by rw [wrapS (by omega) (by omega)]; rfl
 have q168 : wrap64 (((m + 16 : Nat) : Int) + 8) = ((m + 16 + 8 : Nat) : Int) := by rw [wrapS (by omega) (by omega)]; rfl
 have q8 : wrap64 ((m : Int) + 8) = ((m + 8 : Nat) : Int) := by rw [wrapS (by omega) (by omega)]; rfl
 have qb : ∀ x : Nat, x ≤ 8 → wrap64 (x : Int) = (x : Int) := fun x h => wrapS (by omega) (by omega)
 have qa : ∀ a x : Nat, a ≤ 100 → x ≤ 8 → wrap64 ((a : Int) + (x : Int)) = ((a + x : Nat) : Int) := fun a x h g => by rw [wrapS (by omega) (by omega)]; omega
 simp only [bits_Len64.j0]
 have d1 : (w : Int) / 65536 = ((w / 65536 : Nat) : Int) := divN w 65536
 have d2 : ((w / 65536 : Nat) : Int) / 256 = ((w / 65536 / 256 : Nat) : Int) := divN _ 256
 have d3 : (w : Int) / 256 = ((w / 256 : Nat) : Int) := divN w 256
 have m1 : ∀ x : Nat, x < 256 → ((x : Nat) : Int) % 256 = (x : Int) := fun x h => by omega
 have bl8 : ∀ x, x < 256 → bl x ≤ 8 := fun x h => bl_le_iff.2 h
 have t1 : ∀ x : Nat, x < 256 → bt (⟨#[0, 1, 2, 2, 3, 3, 3, 3, 4, 4, 4, 4, 4, 4, 4, 4, 5, 5, 5, 5, 5, 5, 5, 5, 5, 5, 5, 5, 5, 5, 5, 5, 6, 6, 6, 6, 6, 6, 6, 6, 6, 6, 6, 6, 6, 6, 6, 6, 6, 6, 6, 6, 6, 6, 6, 6, 6, 6, 6, 6, 6, 6, 6, 6, 7, 7, 7, 7, 7, 7, 7, 7, 7, 7, 7, 7, 7, 7, 7, 7, 7, 7, 7, 7, 7, 7, 7, 7, 7, 7, 7, 7, 7, 7, 7, 7, 7, 7, 7, 7, 7, 7, 7, 7, 7, 7, 7, 7, 7, 7, 7, 7, 7, 7, 7, 7, 7, 7, 7, 7, 7, 7, 7, 7, 7, 7, 7, 7, 8, 8, 8, 8, 8, 8, 8, 8, 8, 8, 8, 8, 8, 8, 8, 8, 8, 8, 8, 8, 8, 8, 8, 8, 8, 8, 8, 8, 8, 8, 8, 8, 8, 8, 8, 8, 8, 8, 8, 8, 8, 8, 8, 8, 8, 8, 8, 8, 8, 8, 8, 8, 8, 8, 8, 8, 8, 8, 8, 8, 8, 8, 8, 8, 8, 8, 8, 8, 8, 8, 8, 8, 8, 8, 8, 8, 8, 8, 8, 8, 8, 8, 8, 8, 8, 8, 8, 8, 8, 8, 8, 8, 8, 8, 8, 8, 8, 8, 8, 8, 8, 8, 8, 8, 8, 8, 8, 8, 8, 8, 8, 8, 8, 8, 8, 8, 8, 8, 8, 8, 8, 8, 8, 8, 8, 8, 8, 8]⟩ : ByteArray) (x : Int) = (bl x : Int) := len8_eq
 rw [d1, d2, d3]
 by_cases h : 65536 ≤ w
 ·have s1 := bl_shift (w := w) (t := 16) h
  have l1 : w / 65536 < 65536 := by omega
  rw [if_pos (by omega)]
  by_cases g : 256 ≤ w / 65536
  ·have s2 := bl_shift (w := w / 65536) (t := 8) g
   have l2 : w / 65536 / 256 < 256 := by omega
   have l3 := bl8 _ l2
   rw [if_pos (by omega), m1 _ l2, if_pos (by omega), if_pos (by omega), t1 _ l2, q16, q168, qb _ l3, qa _ _ (by omega) l3]
   rw [s1]
   have s2' : bl (w / 65536) = bl (w / 65536 / 256) + 8 := s2
   have s3 : bl (w / 2 ^ 16) = bl (w / 65536 / 256) + 8 := s2
   rw [s3]; congr 1; omega
  have l2 : w / 65536 < 256 := by omega
  have l3 := bl8 _ l2
  rw [if_neg (by omega), m1 _ l2, if_pos (by omega), if_pos (by omega), t1 _ l2, q16, qb _ l3, qa _ _ (by omega) l3]
  have s3 : bl w = bl (w / 65536) + 16 := s1
  rw [s3]; congr 1; omega
 rw [if_neg (by omega)]
 by_cases g : 256 ≤ w
 ·have s2 := bl_shift (w := w) (t := 8) g
  have l2 : w / 256 < 256 := by omega
  have l3 := bl8 _ l2
  rw [if_pos (by omega), m1 _ l2, if_pos (by omega), if_pos (by omega), t1 _ l2, q8, qb _ l3, qa _ _ (by omega) l3]
  have s3 : bl w = bl (w / 256) + 8 := s2
  rw [s3]; congr 1; omega
 have l2 : w < 256 := by omega
 have l3 := bl8 _ l2
 rw [if_neg (by omega), m1 _ l2, if_pos (by omega), if_pos (by omega), t1 _ l2, qb _ l3, qa _ _ (by omega) l3]
theorem Len64_eq (k w : Nat) (hw : w < 18446744073709551616) (hk : 1 < k) : bits_Len64.f k w = some ((bl w : Nat) : Int) := by
 obtain ⟨k, rfl⟩ : ∃ m, k = m + 1 := ⟨k - 1, by omega⟩
 unfold bits_Len64.f
 by_cases h : 4294967296 ≤ w
 ·have d1 : (w : Int) / 4294967296 = ((w / 4294967296 : Nat) : Int) := divN w 4294967296
  have s1 : bl w = bl (w / 4294967296) + 32 := bl_shift (w := w) (t := 32) h
  have := Len64_j0 k (w / 4294967296) 32 (by omega) (by omega)
  rw [if_pos (by omega), d1, s1]
  refine this.trans ?_
  congr 1; omega
 have := Len64_j0 k w 0 (by omega) (by omega)
 rw [Nat.zero_add] at this
 rw [if_neg (by omega)]; exact this
end Go.Proofs.YtemfckibdojbbaaDoor.Nf

namespace Go.Proofs.YtemfckibdojbbaaDoor.Nf
open Go.RowKit Go.Proofs.YtemfckibdojbbaaDoor.PAll Go.Proofs.YtemfckibdojbbaaDoorW.PrintWords Go.Proofs.YtemfckibdojbbaaDoorW.PrintLast Go.Proofs.YtemfckibdojbbaaDoorW.PrintMore Go.Proofs.YtemfckibdojbbaaDoor.Nm
set_option linter.unusedVariables false
set_option linter.unusedSimpArgs false
theorem low_form (v : Nat) (h : v ≠ 0) : ∃ t m, v = 2 ^ t * (2 * m + 1) := by
 induction v using Nat.strongRecOn with
 | _ v ih =>
  by_cases g : v % 2 = 1
  ·exact ⟨0, v / 2, by rw [Nat.pow_zero]; omega⟩
  obtain ⟨t, m, e⟩ := ih (v / 2) (by omega) (by omega)
  exact ⟨t + 1, m, by rw [Nat.pow_succ, Nat.mul_right_comm, ← e]; omega⟩
theorem low_bit (t m n : Nat) (h : n ≤ t) : (2 ^ t * (2 * m + 1)) / 2 ^ n % 2 = if n = t then 1 else 0 := by
 have hp : 0 < 2 ^ n := Nat.pow_pos (by decide)
 obtain ⟨d, rfl⟩ : ∃ d, t = n + d := ⟨t - n, by omega⟩
 rw [Nat.pow_add, Nat.mul_assoc, Nat.mul_div_cancel_left _ hp]
 by_cases g : d = 0
 ·subst g; rw [if_pos (by omega), Nat.pow_zero]; omega
 rw [if_neg (by omega)]
 obtain ⟨e, rfl⟩ : ∃ e, d = e + 1 := ⟨d - 1, by omega⟩
 rw [Nat.pow_succ, Nat.mul_right_comm]; omega
theorem low_unique {t m s n : Nat} (h : 2 ^ t * (2 * m + 1) = 2 ^ s * (2 * n + 1)) : t = s := by
 rcases Nat.lt_trichotomy t s with g | g | g
 ·have a := low_bit t m t (Nat.le_refl _)
  have b := low_bit s n t (Nat.le_of_lt g)
  rw [h, b, if_neg (Nat.ne_of_lt g), if_pos rfl] at a; omega
 ·exact g
 have a := low_bit s n s (Nat.le_refl _)
 have b := low_bit t m s (Nat.le_of_lt g)
 rw [← h, b, if_neg (Nat.ne_of_lt g), if_pos rfl] at a; omega
theorem low_and (t a : Nat) (h : 2 ^ t * (2 * a + 1) < 2 ^ 64) : 2 ^ t * (2 * a + 1) &&& (2 ^ 64 - 2 ^ t * (2 * a + 1)) = 2 ^ t := by
 have hp : 0 < 2 ^ t := Nat.pow_pos (by decide)
 obtain ⟨c, hc⟩ : ∃ c, c + 1 = 2 ^ t * (2 * a + 1) := ⟨2 ^ t * (2 * a + 1) - 1, by have : 0 < 2 ^ t * (2 * a + 1) := Nat.mul_pos hp (by omega); omega⟩
 have hc2 : c = 2 ^ t * (2 * a) + (2 ^ t - 1) := by rw [Nat.mul_add] at hc; omega
 have ht : t < 64 := (Nat.pow_lt_pow_iff_right (a := 2) (by decide)).1 (Nat.lt_of_le_of_lt (Nat.le_mul_of_pos_right _ (by omega)) h)
 apply Nat.eq_of_testBit_eq
 intro i
 rw [Nat.testBit_and, Nat.testBit_two_pow, ← hc, Nat.testBit_two_pow_sub_succ (by omega), hc, hc2, Nat.testBit_two_pow_mul_add _ (by omega)]
 have e0 : 2 ^ t * (2 * a + 1) = 2 ^ t * (2 * a + 1) + 0 := rfl
 rw [e0, Nat.testBit_two_pow_mul_add _ hp]
 by_cases h1 : i < t
 ·have : t ≠ i := by omega
  simp [h1, this]
 rw [if_neg h1, if_neg h1]
 by_cases h2 : t = i
 ·subst h2
  rw [Nat.sub_self]; simp [ht]
 obtain ⟨j, hj⟩ : ∃ j, i - t = j + 1 := ⟨i - t - 1, by omega⟩
 rw [hj, Nat.testBit_succ, Nat.testBit_succ]
 have e1 : (2 * a + 1) / 2 = a := by omega
 have e2 : 2 * a / 2 = a := by omega
 rw [e1, e2]
 cases a.testBit j <;> simp [h2]
theorem tz_table : ∀ t : Fin 64, tzTab.getD (2 ^ t.val * 285870213051353865 % 18446744073709551616 / 288230376151711744) 0 = (t.val : Int) ∧ 2 ^ t.val * 285870213051353865 % 18446744073709551616 / 288230376151711744 < 64 := by decide +kernel
theorem Trail_eq {w t m : Nat} (hw : w = 2 ^ t * (2 * m + 1)) (h : w < 18446744073709551616) : bits_TrailingZeros64.f w = some (t : Int) ∧ t < 64 := by
 have hp : 0 < 2 ^ t := Nat.pow_pos (by decide)
 have h0 : 0 < w := by rw [hw]; exact Nat.mul_pos hp (by omega)
 have h64 : 2 ^ t * (2 * m + 1) < 2 ^ 64 := by rw [← hw]; exact h
 have ht : t < 64 := (Nat.pow_lt_pow_iff_right (a := 2) (by decide)).1 (Nat.lt_of_le_of_lt (Nat.le_mul_of_pos_right _ (by omega)) h64)
 have ha := low_and t m h64
 rw [← hw] at ha
 obtain ⟨b1, b2⟩ := tz_table ⟨t, ht⟩
 have e1 : IntKind.u64.wrap (-(w : Int)) = ((18446744073709551616 - w : Nat) : Int) := by rw [IntKind.wrap_u64]; omega
 have e2 : bits BinOp.and IntKind.u64 (w : Int) ((18446744073709551616 - w : Nat) : Int) = ((2 ^ t : Nat) : Int) := by
  rw [u64_and_nat w _ h (by omega)]
  exact congrArg Nat.cast ha
 have e3 : tzI (w : Int) = ((2 ^ t * 285870213051353865 % 18446744073709551616 / 288230376151711744 : Nat) : Int) := by
  unfold tzI
  rw [e1, e2]
  generalize 2 ^ t = p
  rw [IntKind.wrap_u64]; omega
 refine ⟨?_, ht⟩
 unfold bits_TrailingZeros64.f
 dsimp only at b1 b2
 rw [if_neg (by omega), e3, if_pos (Int.natCast_nonneg _), if_pos (by omega), Int.toNat_natCast, b1]
theorem low_lt {v t m : Nat} (h : v = 2 ^ t * (2 * m + 1)) : t < bl v := by
 have := bl_lt v
 refine (Nat.pow_lt_pow_iff_right (a := 2) (by decide)).1 (Nat.lt_of_le_of_lt ?_ this)
 rw [h]; exact Nat.le_mul_of_pos_right _ (by omega)
end Go.Proofs.YtemfckibdojbbaaDoor.Nf

namespace Go.Proofs.YtemfckibdojbbaaDoor.Nf
open Go.RowKit Go.Proofs.YtemfckibdojbbaaDoor.PAll Go.Proofs.YtemfckibdojbbaaDoorW.PrintWords Go.Proofs.YtemfckibdojbbaaDoorW.PrintLast Go.Proofs.YtemfckibdojbbaaDoorW.PrintMore Go.Proofs.YtemfckibdojbbaaDoor.Nm
set_option linter.unusedVariables false
set_option linter.unusedSimpArgs false
theorem trim_loop (l : List Int) (hw : Ws l) (hn : l.length < 4611686018427387904) (n : Nat) : ∀ k, n ≤ l.length → n < k → limbs_Trim.l0 k l n = some (ofN (val (l.take n))) := by
 induction n with
 | zero =>
  intro k hj hk
  obtain ⟨k, rfl⟩ : ∃ m, k = m + 1 := ⟨k - 1, by omega⟩
  simp only [limbs_Trim.l0]
  rw [if_neg (by omega), if_pos (by omega), if_pos (by omega)]
  simp [val, ofN_zero]
 | succ n ih =>
  intro k hj hk
  obtain ⟨k, rfl⟩ : ∃ m, k = m + 1 := ⟨k - 1, by omega⟩
  simp only [limbs_Trim.l0]
  have e : wrap64 (((n + 1 : Nat) : Int) - 1) = (n : Int) := by rw [wrapS (by omega) (by omega)]; omega
  rw [e, if_pos (by omega), if_pos (by omega), if_pos (by omega), rd_nat]
  by_cases h : l.getD n 0 = 0
  ·rw [if_pos h, ih k (by omega) (by omega), val_take_succ l n (by omega), h]; simp
  rw [if_neg h, if_pos (by omega), if_pos (by omega), Int.toNat_natCast, ← ofN_take hw (by omega) h]
theorem trim_eq (l : List Int) (k : Nat) (hw : Ws l) (hn : l.length < 4611686018427387904) (hk : l.length < k) : limbs_Trim.f k l = some (ofN (val l)) := by
 unfold limbs_Trim.f
 rw [trim_loop l hw hn _ k (Nat.le_refl _) hk, val_take_ge _ _ (Nat.le_refl _)]
theorem lLen_eq (a : List Int) (k : Nat) (ha : Ws a) (na : a.length < 17592186044000) (hk : a.length + 1 < k) : limbs_Len.f k a = some ((bl (val a) : Nat) : Int) := by
 unfold limbs_Len.f
 rw [trim_eq a k ha (by omega) (by omega), bind_s]
 have hla : (ofN (val a)).length ≤ a.length := (ofN_len _ _).2 (val_lt ha)
 by_cases h : val a = 0
 ·have := ofN_zero_iff.2 h
  rw [if_pos (by omega), h, bl_zero]; rfl
 obtain ⟨m, w, h1, h2, h3, h4, h5⟩ := len_bl h
 have hb := bl_word h4
 have e1 : wrap64 (((ofN (val a)).length : Int) - 1) = (m : Int) := by rw [wrapS (by omega) (by omega)]; omega
 have c0 : ¬ ((ofN (val a)).length : Int) = 0 := by clear e1; omega
 have c1 : (m : Int) < ((ofN (val a)).length : Int) := by clear e1; omega
 have e2 : wrap64 (64 * (m : Int)) = ((64 * m : Nat) : Int) := by clear e1; rw [wrapS (by omega) (by omega)]; omega
 have e3 : wrap64 (((64 * m : Nat) : Int) + ((bl w : Nat) : Int)) = ((64 * m + bl w : Nat) : Int) := by clear e1 e2; rw [wrapS (by omega) (by omega)]; omega
 rw [if_neg c0, e1, if_pos (Int.natCast_nonneg _), if_pos c1, rd_nat, h5, Len64_eq k w h4 (by omega), bind_s, e2, e3, h2]
theorem lcmp_loop (x y : List Int) (hx : Ws x) (hy : Ws y) (e : x.length = y.length) (hn : x.length < 4611686018427387904) (j : Nat) : ∀ (k : Nat), j ≤ x.length → j < k →
  limbs_Cmp.l0 k x y ((j : Int) - 1) = some (cmpI (val (x.take j)) (val (y.take j))) := by
 induction j with
 | zero =>
  intro k hj hk
  obtain ⟨k, rfl⟩ : ∃ m, k = m + 1 := ⟨k - 1, by omega⟩
  simp only [limbs_Cmp.l0]
  rw [if_neg (by omega)]
  simp [val, cmpI]
 | succ j ih =>
  intro k hj hk
  obtain ⟨k, rfl⟩ : ∃ m, k = m + 1 := ⟨k - 1, by omega⟩
  have e0 : ((j + 1 : Nat) : Int) - 1 = (j : Int) := by omega
  have e1 : wrap64 ((j : Int) - 1) = (j : Int) - 1 := wrapS (by omega) (by omega)
  have q1 := ws_get hx j
  have q2 := ws_get hy j
  have p1 : val (x.take j) < 18446744073709551616 ^ j := val_take_lt hx j
  have p2 : val (y.take j) < 18446744073709551616 ^ j := val_take_lt hy j
  simp only [limbs_Cmp.l0]
  rw [e0, if_pos (by omega), if_pos (by omega), if_pos (by omega), if_pos (by omega), rd_nat, rd_nat, e1, ih k (by omega) (by omega), val_take_succ x j (by omega), val_take_succ y j (by omega), cmpI_top p1 p2]
  by_cases a : x.getD j 0 = y.getD j 0
  ·rw [if_pos a, a, if_neg (by omega), if_neg (by omega)]
  rw [if_neg a]
  by_cases b : x.getD j 0 < y.getD j 0
  ·rw [if_pos b, if_pos (by omega)]
  rw [if_neg b, if_neg (by omega), if_pos (by omega)]
theorem lCmp_eq (a b : List Int) (k : Nat) (ha : Ws a) (hb : Ws b) (na : a.length < 17592186044000) (nb : b.length < 17592186044000) (hk : a.length + b.length < k) : limbs_Cmp.f k a b = some (cmpI (val a) (val b)) := by
 unfold limbs_Cmp.f
 rw [trim_eq a k ha (by omega) (by omega), bind_s, trim_eq b k hb (by omega) (by omega), bind_s]
 have hla : (ofN (val a)).length ≤ a.length := (ofN_len _ _).2 (val_lt ha)
 by_cases e : (ofN (val a)).length = (ofN (val b)).length
 ·have w : wrap64 (((ofN (val a)).length : Int) - 1) = ((ofN (val a)).length : Int) - 1 := wrapS (by omega) (by omega)
  rw [if_pos (by omega), w, lcmp_loop _ _ (ws_ofN _) (ws_ofN _) e (by omega) _ k (Nat.le_refl _) (by omega), val_take_ge _ _ (Nat.le_refl _), val_take_ge _ _ (by omega), val_ofN, val_ofN]
 rw [if_neg (by omega)]
 by_cases l : (ofN (val a)).length < (ofN (val b)).length
 ·have := cmpI_len l
  rw [if_pos (by omega)]; unfold cmpI; rw [if_pos this]
 have := cmpI_len (show (ofN (val b)).length < (ofN (val a)).length by omega)
 rw [if_neg (by omega)]; unfold cmpI; rw [if_neg (by omega), if_neg (by omega)]
end Go.Proofs.YtemfckibdojbbaaDoor.Nf

namespace Go.Proofs.YtemfckibdojbbaaDoor.Nf
open Go.RowKit Go.Proofs.YtemfckibdojbbaaDoor.PAll Go.Proofs.YtemfckibdojbbaaDoorW.PrintWords Go.Proofs.YtemfckibdojbbaaDoorW.PrintLast Go.Proofs.YtemfckibdojbbaaDoorW.PrintMore Go.Proofs.YtemfckibdojbbaaDoor.Nm
set_option linter.unusedVariables false
set_option linter.unusedSimpArgs false
theorem wrap_addl {a b : Nat} (h : a + b < 4611686018427387904) : wrap64 ((a : Int) + (b : Int)) = ((a + b : Nat) : Int) := by rw [wrapS (by omega) (by omega)]; omega
def Q64 (n q : Nat) : Prop := wrap64 (Int.tdiv (n : Int) 64) = (q : Int)
theorem lshl_loop (n : Nat) (a : List Int) (ha : Ws a) (q s : Nat) (e1 : Q64 n q) (hs : s < 64) (na : a.length + q < 35184372088000) (r : Nat) : ∀ (j k : Nat) (o : List Int) (c : Nat), a.length - j = r → j ≤ a.length → r + a.length + q + 3 < k → o.length = a.length + q + 1 → Ws o → c < 2 ^ s → o.getD (q + j) 0 = c → (∀ i, q + j < i → o.getD i 0 = 0) →
  val (o.take (q + j)) + 18446744073709551616 ^ (q + j) * c = 18446744073709551616 ^ q * (val (a.take j) * 2 ^ s) →
  limbs_Shl.l0 k n o s a a.length j = some (ofN (18446744073709551616 ^ q * (val a * 2 ^ s))) := by
 have h2 : 2 ^ s ≤ 18446744073709551616 := by rw [← pow_split (show s ≤ 64 by omega)]; exact Nat.le_mul_of_pos_right _ (Nat.pow_pos (by decide))
 induction r with
 | zero =>
  intro j k o c hr hj hk ho hw hc hg hz hv
  obtain ⟨k, rfl⟩ : ∃ m, k = m + 1 := ⟨k - 1, by omega⟩
  obtain rfl : j = a.length := by omega
  simp only [limbs_Shl.l0]
  rw [if_neg (by omega), trim_eq _ k hw (by omega) (by omega), bind_s]
  have e := val_take_succ o (q + a.length) (by omega)
  rw [hg, Int.toNat_natCast, hv, val_take_ge _ _ (by omega), val_take_ge _ _ (Nat.le_refl _)] at e
  rw [e]
 | succ r ih =>
  intro j k o c hr hj hk ho hw hc hg hz
  obtain ⟨k, rfl⟩ : ∃ m, k = m + 1 := ⟨k - 1, by omega⟩
  have i1 : a.length - (j + 1) = r := by omega
  have i2 : j + 1 ≤ a.length := by omega
  have i3 : r + a.length + q + 3 < k := by omega
  have i4 : q + j + 1 < o.length := by omega
  have b1 : j + q < 4611686018427387904 := by omega
  have b2 : q + j < 4611686018427387904 := by omega
  have b3 : j < 4611686018427387904 := by omega
  have g1 : (j : Int) < (a.length : Int) := by omega
  have g2 : ((q + j : Nat) : Int) < (o.length : Int) := by omega
  have g3 : ((q + j + 1 : Nat) : Int) < (o.length : Int) := by omega
  have hs' : s ≤ 64 := by omega
  have l0 : 2 ^ s ≤ 18446744073709551616 := h2
  have hz' : ∀ i, q + (j + 1) < i → q + j < i ∧ q + j + 1 ≠ i ∧ q + j ≠ i := fun i hi => by omega
  have hq1 : q + j < q + j + 1 := by omega
  intro hv
  simp only [limbs_Shl.l0]
  rw [if_pos g1, if_pos (Int.natCast_nonneg _), if_pos g1, show wrap64 (Int.tdiv (n : Int) 64) = (q : Int) from e1, wrap_addl b2, wrap_succ b2, if_pos (Int.natCast_nonneg _), if_pos g2, if_pos (Int.natCast_nonneg _), wrap_succ b3]
  simp only [rd_nat, Int.toNat_natCast]
  obtain ⟨p0, p1⟩ := ws_get ha j
  have ew := asNat p0
  generalize hwn : (a.getD j 0).toNat = w at ew
  have w1 : w < 18446744073709551616 := Int.ofNat_lt.1 (ew ▸ p1)
  rw [ew, hg, or_shl' hs' hc, bind_s]
  have l1 := or_shl_lt (w := w) hs' hc
  have e := (shl_parts (w := w) (s := s) hs').2
  have key : ∀ d : Nat, d = w / 2 ^ (64 - s) → limbs_Shl.l0 k n ((o.set (q + j) ((w * 2 ^ s % 18446744073709551616 + c : Nat) : Int)).set (q + j + 1) (d : Int)) s a a.length ((j + 1 : Nat) : Int) = some (ofN (18446744073709551616 ^ q * (val a * 2 ^ s))) := by
   intro d hd
   have l2 : d < 2 ^ s := by rw [hd]; exact shr_up_lt hs' w1
   refine ih (j + 1) k _ d i1 i2 i3 (by rw [List.length_set, List.length_set]; exact ho) (ws_set (ws_set hw _ (Int.natCast_nonneg _) (Int.ofNat_lt.2 l1)) _ (Int.natCast_nonneg _) (Int.ofNat_lt.2 (Nat.lt_of_lt_of_le l2 h2))) l2 ?_ ?_ ?_
   ·exact Nm.getD_set_eq _ _ _ (by rw [List.length_set]; exact i4)
   ·intro i hi
    obtain ⟨z1, z2, z3⟩ := hz' i hi
    rw [Nm.getD_set_ne _ _ _ _ z2, Nm.getD_set_ne _ _ _ _ z3]
    exact hz i z1
   rw [← hd] at e
   have := val_take_succ ((o.set (q + j) ((w * 2 ^ s % 18446744073709551616 + c : Nat) : Int)).set (q + j + 1) (d : Int)) (q + j + 1) (by rw [List.length_set, List.length_set]; exact i4)
   rw [val_set2 _ _ _ _ i4, Nm.getD_set_eq _ _ _ (by rw [List.length_set]; exact i4), Int.toNat_natCast] at this
   have e3 : q + (j + 1) = q + j + 1 := rfl
   rw [e3]
   rw [← this, take_succ_getD a, hwn, Nat.pow_succ, Nat.pow_add]
   rw [Nat.pow_add] at hv
   exact shl_step e hv
  by_cases h : (s : Int) > 0
  ·have hs64 : 64 - s ≤ 64 := by omega
   have e64 : wrap64 (64 - (s : Int)) = ((64 - s : Nat) : Int) := by rw [wrapS (by omega) (by omega)]; omega
   rw [if_pos h, e64, if_pos (Int.natCast_nonneg _), if_pos (Int.natCast_nonneg _), if_pos g3, shr_eq _ _ hs64]
   exact key _ rfl
  have : s = 0 := by omega
  rw [if_neg h]
  have k0 := key 0 (by subst this; rw [Nat.div_eq_of_lt (show w < 2 ^ (64 - 0) from w1)])
  have same : ((o.set (q + j) ((w * 2 ^ s % 18446744073709551616 + c : Nat) : Int)).set (q + j + 1) ((0 : Nat) : Int)) = o.set (q + j) ((w * 2 ^ s % 18446744073709551616 + c : Nat) : Int) := by
   have h0 := hz (q + j + 1) hq1
   refine List.ext_getElem (by simp) fun i g1 g2 => ?_
   by_cases hi : i = q + j + 1
   ·subst hi
    rw [List.getElem_set_self, List.getElem_set_ne (by omega)]
    rw [List.getD_eq_getElem?_getD, List.getElem?_eq_getElem i4] at h0
    exact h0.symm
   rw [List.getElem_set_ne (by omega)]
  rw [same] at k0
  exact k0
theorem lShl_eq (a : List Int) (n k : Nat) (ha : Ws a) (hn : n < 4611686018427387904) (na : a.length + n / 64 < 17592186044000) (hk : 3 * a.length + n / 64 + 10 < k) : limbs_Shl.f k a n = some (ofN (val a * 2 ^ n)) := by
 unfold limbs_Shl.f
 have hla : (ofN (val a)).length ≤ a.length := (ofN_len _ _).2 (val_lt ha)
 rw [trim_eq a k ha (by omega) (by omega), bind_s]
 by_cases h : val a = 0
 ·have := ofN_zero_iff.2 h
  rw [if_pos (by omega), h, Nat.zero_mul, ofN_zero]
 have hl : (ofN (val a)).length ≠ 0 := fun z => h (ofN_zero_iff.1 z)
 have f1 : n % 64 < 64 := by omega
 have f2 : (ofN (val a)).length + n / 64 < 35184372088000 := by omega
 have f3 : (ofN (val a)).length + (ofN (val a)).length + n / 64 + 3 < k := by omega
 have c1 : (ofN (val a)).length + n / 64 + 1 ≤ 35184372088832 := by omega
 have c2 : ¬ (((ofN (val a)).length : Int) = 0) := by omega
 have b1 : n / 64 + (ofN (val a)).length + 1 < 4611686018427387904 := by omega
 have e1 : Q64 n (n / 64) := by
  unfold Q64
  rw [Int.tdiv_eq_ediv_of_nonneg (by omega), wrapS (by omega) (by omega)]; omega
 have t := lshl_loop n (ofN (val a)) (ws_ofN _) (n / 64) (n % 64) e1 f1 f2 _ 0 k (List.replicate ((ofN (val a)).length + n / 64 + 1) 0) 0 rfl (Nat.zero_le _) (by rw [Nat.sub_zero]; exact f3) (by simp) (ws_replicate _) (Nat.pow_pos (by decide)) (by rw [getD_rep]; rfl) (fun i _ => getD_rep _ _) (by simp [val_replicate, val])
 rw [val_ofN] at t
 have e2 : Int.tmod (n : Int) 64 = ((n % 64 : Nat) : Int) := by
  clear t e1
  rw [Int.tmod_eq_emod_of_nonneg (by omega)]; omega
 have e3 : wrap64 ((wrap64 (((n / 64 : Nat) : Int) + ((ofN (val a)).length : Int))) + 1) = (((ofN (val a)).length + n / 64 + 1 : Nat) : Int) := by
  clear t e1 e2 hn na hk f1 f2 f3 c1 hla
  generalize n / 64 = q at *
  generalize (ofN (val a)).length = m at *
  rw [wrapS (x := (q : Int) + (m : Int)) (by omega) (by omega), wrapS (by omega) (by omega)]; omega
 rw [if_neg c2, show wrap64 (Int.tdiv (n : Int) 64) = ((n / 64 : Nat) : Int) from e1, e2, e3, if_pos (Int.natCast_nonneg _), Int.toNat_natCast, if_pos c1, pow_parts n, Nat.mul_left_comm]
 exact t
end Go.Proofs.YtemfckibdojbbaaDoor.Nf

namespace Go.Proofs.YtemfckibdojbbaaDoor.Nf
open Go.RowKit Go.Proofs.YtemfckibdojbbaaDoor.PAll Go.Proofs.YtemfckibdojbbaaDoorW.PrintWords Go.Proofs.YtemfckibdojbbaaDoorW.PrintLast Go.Proofs.YtemfckibdojbbaaDoorW.PrintMore Go.Proofs.YtemfckibdojbbaaDoor.Nm
set_option linter.unusedVariables false
set_option linter.unusedSimpArgs false
theorem llow_loop (v : Nat) (hl : (ofN v).length < 4503599627370496) (s : Nat) : ∀ (i k : Nat), (ofN v).length - i = s → i ≤ (ofN v).length → s < k → val ((ofN v).take i) = 0 →
  (v = 0 → limbs_Low.l0 k (ofN v) (ofN v).length i = some 0) ∧ (∀ t m : Nat, v = 2 ^ t * (2 * m + 1) → limbs_Low.l0 k (ofN v) (ofN v).length i = some (t : Int)) := by
 induction s with
 | zero =>
  intro i k hs hi hk hz
  obtain ⟨k, rfl⟩ : ∃ z, k = z + 1 := ⟨k - 1, by omega⟩
  obtain rfl : i = (ofN v).length := by omega
  rw [val_take_ge _ _ (Nat.le_refl _), val_ofN] at hz
  have g : limbs_Low.l0 (k + 1) (ofN v) (ofN v).length ((ofN v).length : Nat) = some 0 := by
   simp only [limbs_Low.l0]; rw [if_neg (by omega)]
  refine ⟨fun _ => g, fun t m ht => ?_⟩
  have : 0 < 2 ^ t * (2 * m + 1) := Nat.mul_pos (Nat.pow_pos (by decide)) (by omega)
  omega
 | succ s ih =>
  intro i k hs hi hk hz
  obtain ⟨k, rfl⟩ : ∃ z, k = z + 1 := ⟨k - 1, by omega⟩
  have i1 : (ofN v).length - (i + 1) = s := by omega
  have i2 : i + 1 ≤ (ofN v).length := by omega
  have i3 : s < k := by omega
  have g1 : (i : Int) < ((ofN v).length : Int) := by omega
  have b3 : i < 4611686018427387904 := by omega
  have i5 : i < (ofN v).length := by omega
  obtain ⟨p0, p1⟩ := ws_get (ws_ofN v) i
  have ew := asNat p0
  have ts := val_take_succ (ofN v) i i5
  have td := val_take_drop (ofN v) i (Nat.le_of_lt i5)
  have vd := val_drop (ofN v) i i5
  rw [hz] at ts td
  rw [val_ofN, vd] at td
  simp only [limbs_Low.l0]
  rw [if_pos g1, if_pos (Int.natCast_nonneg _), if_pos g1, rd_nat]
  generalize hwn : ((ofN v).getD i 0).toNat = w at *
  by_cases h : w = 0
  ·have := ih (i + 1) k i1 i2 i3 (by rw [ts, h]; simp)
   rw [if_pos (by rw [ew, h]; rfl), wrap_succ b3]
   exact this
  have w1 : w < 18446744073709551616 := Int.ofNat_lt.1 (ew ▸ p1)
  obtain ⟨s', c, hc⟩ := low_form w h
  obtain ⟨tz, ts64⟩ := Trail_eq hc w1
  have e2 : wrap64 (64 * (i : Int)) = ((64 * i : Nat) : Int) := by rw [wrapS (by omega) (by omega)]; omega
  have e3 : wrap64 (((64 * i : Nat) : Int) + (s' : Int)) = ((64 * i + s' : Nat) : Int) := by clear e2; rw [wrapS (by omega) (by omega)]; omega
  have hw0 : ¬ (w : Int) = 0 := by clear e2 e3; omega
  rw [ew, if_neg hw0, tz, bind_s, e2, e3]
  clear e2 e3
  have hv : v = 2 ^ (64 * i + s') * (2 * (c + 2 ^ (63 - s') * val ((ofN v).drop (i + 1))) + 1) := by
   have eB : (18446744073709551616 : Nat) = 2 ^ s' * (2 * 2 ^ (63 - s')) := by
    have := pow_split (show s' ≤ 64 by omega)
    have e3 : 64 - s' = (63 - s') + 1 := by omega
    rw [e3, Nat.pow_succ, Nat.mul_comm _ 2] at this
    exact this.symm
   have eP : (18446744073709551616 : Nat) ^ i = 2 ^ (64 * i) := by rw [Nat.pow_mul]
   generalize val ((ofN v).drop (i + 1)) = R at *
   have e5 : w + 18446744073709551616 * R = 2 ^ s' * (2 * (c + 2 ^ (63 - s') * R) + 1) := by
    rw [eB, hc, Nat.mul_assoc, ← Nat.mul_add, Nat.mul_add 2 c, Nat.mul_assoc 2]
    congr 1; omega
   rw [Nat.zero_add, e5, eP, ← Nat.mul_assoc, ← Nat.pow_add] at td
   exact td
  refine ⟨fun z => ?_, fun t m ht => ?_⟩
  ·have : 0 < 2 ^ (64 * i + s') * (2 * (c + 2 ^ (63 - s') * val ((ofN v).drop (i + 1))) + 1) := Nat.mul_pos (Nat.pow_pos (by decide)) (by omega)
   omega
  have := low_unique (ht.symm.trans hv)
  rw [this]
theorem lLow_eq (v k : Nat) (hl : (ofN v).length < 4503599627370496) (hk : (ofN v).length < k) : (v = 0 → limbs_Low.f k (ofN v) = some 0) ∧ (∀ t m : Nat, v = 2 ^ t * (2 * m + 1) → limbs_Low.f k (ofN v) = some (t : Int)) := by
 unfold limbs_Low.f
 exact llow_loop v hl (ofN v).length 0 k (by omega) (Nat.zero_le _) hk (by simp [val])
end Go.Proofs.YtemfckibdojbbaaDoor.Nf

namespace Go.Proofs.YtemfckibdojbbaaDoor.Nf
open Go.RowKit Go.Proofs.YtemfckibdojbbaaDoor.PAll Go.Proofs.YtemfckibdojbbaaDoorW.PrintWords Go.Proofs.YtemfckibdojbbaaDoorW.PrintLast Go.Proofs.YtemfckibdojbbaaDoorW.PrintMore Go.Proofs.YtemfckibdojbbaaDoor.Nm
set_option linter.unusedVariables false
set_option linter.unusedSimpArgs false
theorem lshr_loop (A : List Int) (ha : Ws A) (s : Nat) (hs : s < 64) (lost : Bool) (na : A.length < 35184372088832) (r : Nat) : ∀ (j k : Nat) (o : List Int), A.length - j = r → j ≤ A.length → r + A.length + 3 < k → o.length = A.length → Ws o →
  2 ^ s * val (o.take j) + (A.getD 0 0).toNat % 2 ^ s = val (A.take j) + 18446744073709551616 ^ j * ((A.getD j 0).toNat % 2 ^ s) →
  limbs_Shr.l0 k A lost o s A (A.length : Int) j = some (ofN (val A / 2 ^ s), lost) := by
 induction r with
 | zero =>
  intro j k o hr hj hk ho hw hv
  obtain ⟨k, rfl⟩ : ∃ m, k = m + 1 := ⟨k - 1, by omega⟩
  obtain rfl : j = A.length := by omega
  simp only [limbs_Shr.l0]
  rw [if_neg (by omega), trim_eq _ _ hw (by omega) (by omega), bind_s]
  rw [getD_ge A A.length (by omega), val_take_ge o _ (by omega), val_take_ge A _ (by omega)] at hv
  have h0 : (A.getD 0 0).toNat % 2 ^ s < 2 ^ s := Nat.mod_lt _ (Nat.pow_pos (by decide))
  have := (shr_end h0 (show 2 ^ s * val o + (A.getD 0 0).toNat % 2 ^ s = val A by rw [hv]; simp)).1
  rw [this]
 | succ r ih =>
  intro j k o hr hj hk ho hw hv
  obtain ⟨k, rfl⟩ : ∃ m, k = m + 1 := ⟨k - 1, by omega⟩
  have i1 : A.length - (j + 1) = r := by omega
  have i2 : j + 1 ≤ A.length := by omega
  have i3 : r + A.length + 3 < k := by omega
  have i4 : j < o.length := by omega
  have g1 : (j : Int) < (A.length : Int) := by omega
  have g3 : (j : Int) < (o.length : Int) := by omega
  have g4 : ((j + 1 : Nat) : Int) < (A.length : Int) ↔ j + 1 < A.length := by omega
  have b3 : j < 4611686018427387904 := by omega
  have hs' : s ≤ 64 := by omega
  have hs6 : 64 - s ≤ 64 := by omega
  have hsp : (s : Int) > 0 ↔ 0 < s := by omega
  have hs1 : -9223372036854775808 ≤ (64 : Int) - (s : Int) := by omega
  have hs2 : (64 : Int) - (s : Int) < 9223372036854775808 := by omega
  have hs3 : (64 : Int) - (s : Int) = ((64 - s : Nat) : Int) := by omega
  have hs0 : ¬ 0 < s → s = 0 := by omega
  have hge : ¬ j + 1 < A.length → A.length ≤ j + 1 := by omega
  simp only [limbs_Shr.l0]
  rw [if_pos g1, if_pos (Int.natCast_nonneg _), if_pos g1, if_pos (Int.natCast_nonneg _), if_pos g3, wrap_succ b3, bind_s]
  simp only [rd_nat, Int.toNat_natCast]
  obtain ⟨p0, p1⟩ := ws_get ha j
  obtain ⟨p2, p3⟩ := ws_get ha (j + 1)
  have ew := asNat p0
  have ew' := asNat p2
  generalize hwn : (A.getD j 0).toNat = w at ew
  generalize hwn' : (A.getD (j + 1) 0).toNat = w' at ew'
  have w1 : w < 18446744073709551616 := Int.ofNat_lt.1 (ew ▸ p1)
  rw [ew, shr_eq _ _ hs', Nm.getD_set_eq _ _ _ i4, List.set_set]
  have key : ∀ v : Nat, v = w / 2 ^ s + 2 ^ (64 - s) * (w' % 2 ^ s) → limbs_Shr.l0 k A lost (o.set j (v : Int)) s A (A.length : Int) ((j + 1 : Nat) : Int) = some (ofN (val A / 2 ^ s), lost) := by
   intro v hv2
   have l1 : v < 18446744073709551616 := by rw [hv2]; exact shr_word_lt hs' w1
   refine ih (j + 1) k _ i1 i2 i3 (by rw [List.length_set]; exact ho) (ws_set hw _ (Int.natCast_nonneg _) (Int.ofNat_lt.2 l1)) ?_
   rw [val_set_take o j _ i4, take_succ_getD, hwn', hwn, Int.toNat_natCast, Nat.pow_succ]
   rw [hwn] at hv
   exact shr_step (pow_split hs') hv2 hv
  by_cases h : 0 < s
  ·rw [if_pos (hsp.2 h)]
   by_cases g : j + 1 < A.length
   ·rw [if_pos (g4.2 g), if_pos (Int.natCast_nonneg _), wrapS hs1 hs2, hs3, if_pos (Int.natCast_nonneg _), ew', or_shr h hs w1]
    exact key _ rfl
   rw [if_neg (fun x => g (g4.1 x))]
   refine key _ ?_
   rw [getD_ge A _ (hge g)] at hwn'
   have : w' = 0 := hwn'.symm
   rw [this]; simp
  have h00 := hs0 h
  rw [if_neg (fun x => h (hsp.1 x))]
  refine key _ ?_
  rw [h00]; simp [Nat.mod_one]
theorem low_mod_ne (t m n : Nat) : (2 ^ t * (2 * m + 1)) % 2 ^ n ≠ 0 ↔ t < n := by
 constructor
 ·intro h
  refine Classical.byContradiction fun g => h ?_
  rw [show t = n + (t - n) by omega, Nat.pow_add, Nat.mul_assoc]
  exact Nat.mul_mod_right _ _
 intro h e
 obtain ⟨c, hc⟩ := Nat.dvd_of_mod_eq_zero e
 rw [show n = t + (1 + (n - t - 1)) by omega, Nat.pow_add, Nat.pow_add, Nat.mul_assoc] at hc
 have := Nat.eq_of_mul_eq_mul_left (Nat.pow_pos (by decide)) hc
 rw [Nat.pow_one, Nat.mul_assoc] at this
 omega
theorem lShr_eq (a : List Int) (n k : Nat) (ha : Ws a) (hn : n < 4611686018427387904) (na : a.length < 17592186044000) (hk : 3 * a.length + 10 < k) :
  limbs_Shr.f k a n = some (ofN (val a / 2 ^ n), decide (val a % 2 ^ n ≠ 0)) := by
 unfold limbs_Shr.f
 have hl : (ofN (val a)).length ≤ a.length := (ofN_len (val a) a.length).2 (val_lt ha)
 rw [trim_eq a k ha (by omega) (by omega), bind_s]
 generalize hv : val a = v at *
 have wv : Ws (ofN v) := ws_ofN v
 by_cases h0 : v = 0
 ·subst h0
  rw [ofN_zero, if_pos (show ((([] : List Int).length : Nat) : Int) = 0 from rfl), Nat.zero_div, Nat.zero_mod, ofN_zero]; rfl
 obtain ⟨t, m, e⟩ := low_form v h0
 have hne : (ofN v).length ≠ 0 := fun h => h0 (ofN_zero_iff.1 h)
 have q0 : ¬ ((ofN v).length : Int) = 0 := by omega
 have ql : (ofN v).length < 17592186044000 := by omega
 have qk : 3 * (ofN v).length + 10 < k := by omega
 rw [if_neg q0, ((lLow_eq v k (by omega) (by omega)).2 t m e), bind_s]
 have hd : decide ((t : Int) < (n : Int)) = decide (v % 2 ^ n ≠ 0) := by
  rw [decide_eq_decide, e, low_mod_ne]; omega
 rw [hd]
 have e2 : Int.tmod (n : Int) 64 = ((n % 64 : Nat) : Int) := by
  rw [Int.tmod_eq_emod_of_nonneg (by omega)]; omega
 have en : n = 64 * (n / 64) + n % 64 := by omega
 have hs : n % 64 < 64 := by omega
 have e1 : wrap64 (Int.tdiv (n : Int) 64) = ((n / 64 : Nat) : Int) := by
  have a1 : (-9223372036854775808 : Int) ≤ ((n / 64 : Nat) : Int) := by omega
  have a2 : ((n / 64 : Nat) : Int) < 9223372036854775808 := by omega
  rw [Int.tdiv_eq_ediv_of_nonneg (Int.natCast_nonneg n)]
  exact wrapS a1 a2
 rw [e1, e2]
 generalize n / 64 = q at *
 generalize n % 64 = s at *
 generalize hL : (ofN v).length = L at *
 by_cases h : L ≤ q
 ·have q1 : (q : Int) ≥ (L : Int) := by omega
  rw [if_pos q1]
  have h1 : v < 2 ^ n := by
   have := (ofN_len v L).1 (Nat.le_of_eq hL)
   refine Nat.lt_of_lt_of_le this ?_
   have e : 18446744073709551616 ^ L = 2 ^ (64 * L) := by rw [Nat.pow_mul]
   rw [e]; exact Nat.pow_le_pow_right (by decide) (by omega)
  rw [Nat.div_eq_of_lt h1, ofN_zero]
 have c1 : ¬ ((q : Int) ≥ (L : Int)) := by omega
 have c3 : (q : Int) ≤ (L : Int) := by omega
 have hdl : ((ofN v).drop q).length = L - q := by rw [List.length_drop, hL]
 have c5 : ((L - q : Nat) : Int).toNat ≤ 35184372088832 := by rw [Int.toNat_natCast]; omega
 have c6 : L - q < 35184372088832 := by omega
 have c7 : (L - q) + (L - q) + 3 < k := by omega
 rw [if_neg c1, if_pos (Int.natCast_nonneg _), if_pos c3, bind_s, Int.toNat_natCast, hdl, if_pos (Int.natCast_nonneg _), if_pos c5, Int.toNat_natCast]
 have hp := (shr_parts (q := q) (s := s) wv hs (by omega)).1
 rw [val_ofN] at hp
 have := lshr_loop ((ofN v).drop q) (ws_drop wv q) s hs (decide (v % 2 ^ n ≠ 0)) (by rw [hdl]; exact c6) _ 0 k (List.replicate (L - q) 0) rfl (Nat.zero_le _) (by rw [hdl]; exact c7) (by rw [hdl, List.length_replicate]) (ws_replicate _) (by simp [val])
 rw [hdl] at this
 rw [en, hp, ← en]
 exact this
end Go.Proofs.YtemfckibdojbbaaDoor.Nf

namespace Go.Proofs.YtemfckibdojbbaaDoor.Nf
open Go.RowKit Go.Proofs.YtemfckibdojbbaaDoor.PAll Go.Proofs.YtemfckibdojbbaaDoorW.PrintWords Go.Proofs.YtemfckibdojbbaaDoorW.PrintLast Go.Proofs.YtemfckibdojbbaaDoorW.PrintMore Go.Proofs.YtemfckibdojbbaaDoor.Nm
set_option linter.unusedVariables false
set_option linter.unusedSimpArgs false
noncomputable def tz (n : Nat) : Nat := if h : n ≠ 0 then Classical.choose (low_form n h) else 0
theorem tz_eq {n t m : Nat} (h : n = 2 ^ t * (2 * m + 1)) : tz n = t := by
 have h0 : n ≠ 0 := by rw [h]; exact Nat.ne_of_gt (Nat.mul_pos (Nat.pow_pos (by decide)) (by omega))
 unfold tz
 rw [dif_pos h0]
 obtain ⟨m', hm⟩ := Classical.choose_spec (low_form n h0)
 exact low_unique (hm.symm.trans h)
noncomputable def od (n : Nat) : Nat := n / 2 ^ tz n
theorem od_eq {n t m : Nat} (h : n = 2 ^ t * (2 * m + 1)) : od n = 2 * m + 1 := by
 unfold od
 rw [tz_eq h, h, Nat.mul_div_cancel_left _ (Nat.pow_pos (by decide))]
theorem od_le (n : Nat) : od n ≤ n := Nat.div_le_self _ _
theorem od_mul (n : Nat) : od n * 2 ^ tz n = n := by
 by_cases h : n = 0
 ·subst h; unfold od; rw [Nat.zero_div, Nat.zero_mul]
 obtain ⟨t, m, e⟩ := low_form n h
 rw [od_eq e, tz_eq e, e, Nat.mul_comm]
theorem od_ne {n : Nat} (h : n ≠ 0) : od n ≠ 0 := fun e => h (by have := od_mul n; rw [e, Nat.zero_mul] at this; exact this.symm)
noncomputable def cf (s : Bool) (n : Nat) (e : Int) : Bool × List Int × Int := if n = 0 then (false, [], 0) else (s, ofN (od n), e + (tz n : Int))
theorem cf_zero (s : Bool) (e : Int) : cf s 0 e = (false, [], 0) := by unfold cf; rw [if_pos rfl]
theorem cf_ne {n : Nat} (h : n ≠ 0) (s : Bool) (e : Int) : cf s n e = (s, ofN (od n), e + (tz n : Int)) := by unfold cf; rw [if_neg h]
theorem tz_lt {n : Nat} (h : n ≠ 0) : tz n < bl n := by
 obtain ⟨t, m, e⟩ := low_form n h
 rw [tz_eq e]; exact low_lt e
theorem bl_len {n m : Nat} (h : (ofN n).length ≤ m) : bl n ≤ 64 * m := by
 rw [bl_le_iff]
 have := (ofN_len n m).1 h
 rw [Nat.pow_mul]; exact this
theorem len_od (n : Nat) : (ofN (od n)).length ≤ (ofN n).length := ofN_len_le (od_le n)
theorem Form_eq (s : Bool) (l : List Int) (e : Int) (k : Nat) (hw : Ws l) (hl : l.length < 17592186044000) (h0 : -1000000000000000000 ≤ e) (h1 : e ≤ 1000000000000000000) (hk : 100000000000000000 ≤ k) : raw_Form.f k s l e = some (cf s (val l) e) := by
 unfold raw_Form.f
 have hn : (ofN (val l)).length ≤ l.length := (ofN_len (val l) l.length).2 (val_lt hw)
 rw [trim_eq l k hw (by omega) (by omega), bind_s]
 generalize val l = v at *
 by_cases h : v = 0
 ·subst h
  rw [ofN_zero, cf_zero, if_pos (show ((([] : List Int).length : Nat) : Int) = 0 from rfl)]
 obtain ⟨t, m, e1⟩ := low_form v h
 have hne : (ofN v).length ≠ 0 := fun h' => h (ofN_zero_iff.1 h')
 have q0 : ¬ ((ofN v).length : Int) = 0 := by omega
 have ht := low_lt e1
 have hb := bl_len hn
 have ht2 : t < 4611686018427387904 := by omega
 rw [if_neg q0, ((lLow_eq v k (by omega) (by omega)).2 t m e1), bind_s, lShr_eq _ t k (ws_ofN v) ht2 (by omega) (by omega), bind_s, cf_ne h, val_ofN, tz_eq e1, wrapS (by omega) (by omega)]
 unfold od
 rw [tz_eq e1]
def sg (s : Bool) (n : Nat) : Int := if s then -(n : Int) else (n : Int)
def lowE : Int := -4000000
def Vz (z e : Int) : Int := z * 2 ^ (e - lowE).toNat
theorem sg_zero (s : Bool) : sg s 0 = 0 := by cases s <;> rfl
theorem sg_abs (s : Bool) (n : Nat) : (sg s n).natAbs = n := by cases s <;> simp [sg]
theorem sg_mul (s : Bool) (n m : Nat) : sg s (n * m) = sg s n * (m : Int) := by cases s <;> simp [sg, Int.neg_mul]
theorem pow_int (j : Nat) : ((2 ^ j : Nat) : Int) = (2 : Int) ^ j := by simp
theorem sg_shl (s : Bool) (n j : Nat) : sg s (n * 2 ^ j) = sg s n * 2 ^ j := by rw [sg_mul, pow_int]
theorem Vz_shl {e : Int} (h : lowE ≤ e) (z : Int) (j : Nat) : Vz (z * 2 ^ j) e = Vz z (e + j) := by
 unfold Vz
 rw [show (e + j - lowE).toNat = j + (e - lowE).toNat by omega, Int.pow_add, Int.mul_assoc]
theorem Vz_zero (e : Int) : Vz 0 e = 0 := Int.zero_mul _
def vl (s : Bool) (l : List Int) (e : Int) : Int := Vz (sg s (val l)) e
theorem vl_cf {e : Int} (h : lowE ≤ e) (s : Bool) (n : Nat) : vl (cf s n e).1 (cf s n e).2.1 (cf s n e).2.2 = Vz (sg s n) e := by
 by_cases h0 : n = 0
 ·subst h0; rw [cf_zero, sg_zero, Vz_zero]; unfold vl; rw [val_nil, sg_zero, Vz_zero]
 rw [cf_ne h0]
 show Vz (sg s (val (ofN (od n)))) (e + (tz n : Int)) = _
 rw [val_ofN, ← Vz_shl h, ← sg_shl, od_mul]
end Go.Proofs.YtemfckibdojbbaaDoor.Nf

namespace Go.Proofs.YtemfckibdojbbaaDoor.Nf
open Go.RowKit Go.Proofs.YtemfckibdojbbaaDoor.PAll Go.Proofs.YtemfckibdojbbaaDoorW.PrintWords Go.Proofs.YtemfckibdojbbaaDoorW.PrintLast Go.Proofs.YtemfckibdojbbaaDoorW.PrintMore Go.Proofs.YtemfckibdojbbaaDoor.Nm
set_option linter.unusedVariables false
set_option linter.unusedSimpArgs false
theorem len0 {v : Nat} : (((ofN v).length : Nat) : Int) = 0 ↔ v = 0 := by rw [← ofN_zero_iff]; omega
theorem len_shl {a m : Nat} (h : (ofN a).length ≤ m) (j : Nat) : (ofN (a * 2 ^ j)).length ≤ m + j / 64 + 1 := by
 rw [ofN_len] at h ⊢
 have e : 18446744073709551616 ^ (m + j / 64 + 1) = 18446744073709551616 ^ m * 2 ^ (64 * (j / 64 + 1)) := by rw [Nat.add_assoc, Nat.pow_add, Nat.pow_mul]
 rw [e]
 exact Nat.mul_lt_mul_of_lt_of_le h (Nat.pow_le_pow_right (by decide) (by omega)) (Nat.pow_pos (by decide))
theorem Zero_eq (s : Bool) (l : List Int) (e : Int) (k : Nat) (hw : Ws l) (hl : l.length < 17592186044000) (hk : 100000000000000000 ≤ k) : raw_Zero.f k s l e = some (decide (val l = 0)) := by
 unfold raw_Zero.f
 rw [trim_eq l k hw (by omega) (by omega), bind_s]
 congr 1
 rw [Bool.eq_iff_iff, decide_eq_true_iff, beq_iff_eq, len0]
def fits (n : Nat) (e : Int) : Bool := decide (n < big ∧ -32768 ≤ e ∧ e ≤ 32768)
theorem fits_iff {n : Nat} {e : Int} : fits n e = true ↔ n < big ∧ -32768 ≤ e ∧ e ≤ 32768 := decide_eq_true_iff
theorem fits_hi {n : Nat} {e : Int} (h : n < big) (g : e ≥ -32768) : fits n e = decide (e ≤ 32768) := by
 rw [Bool.eq_iff_iff, fits_iff, decide_eq_true_iff]
 exact ⟨fun c => c.2.2, fun c => ⟨h, g, c⟩⟩
theorem fits_no {n : Nat} {e : Int} (h : ¬ (n < big ∧ -32768 ≤ e ∧ e ≤ 32768)) : fits n e = false := by
 rw [Bool.eq_false_iff]; exact fun c => h (fits_iff.1 c)
theorem len_big' (v : Nat) : (((ofN v).length : Nat) : Int) ≤ 1024 ↔ v < big := by rw [← ofN_big]; omega
theorem Fits_eq (s : Bool) (l : List Int) (e : Int) (k : Nat) (hw : Ws l) (hl : l.length < 17592186044000) (hk : 100000000000000000 ≤ k) : raw_Fits.f k s l e = some (fits (val l) e) := by
 unfold raw_Fits.f
 rw [trim_eq l k hw (by omega) (by omega), bind_s]
 by_cases h : val l < big
 ·rw [if_pos ((len_big' _).2 h)]
  by_cases g : e ≥ -32768
  ·rw [if_pos g, fits_hi h g]
  rw [if_neg g, fits_no (fun c => g c.2.1)]
 rw [if_neg (fun c => h ((len_big' _).1 c))]; rw [fits_no (fun c => h c.1)]
theorem right_eq (s : Bool) (l : List Int) (e : Int) (k : Nat) (hw : Ws l) (hl : l.length < 17592186044000) (hk : 100000000000000000 ≤ k) : dyad_number_right.f k s l e = some (fits (val l) e) := by
 unfold dyad_number_right.f
 rw [Fits_eq s l e k hw hl hk, bind_s]
structure Rt (l : List Int) (e : Int) : Prop where
 ws : Ws l
 len : l.length < 17592186044000
 sm : (ofN (val l)).length ≤ 8192
 lo : -1000000 ≤ e
 hi : e ≤ 1000000
theorem Rt.lowE {l : List Int} {e : Int} (h : Rt l e) : Nf.lowE ≤ e := by have := h.lo; unfold Nf.lowE; omega
theorem One_eq (s : Bool) (l : List Int) (e : Int) (k : Nat) (h : Rt l e) (hk : 100000000000000000 ≤ k) : raw_One.f k s l e = some (cf s (val l) e) := by
 unfold raw_One.f
 rw [Form_eq s l e k h.ws h.len (by have := h.lo; omega) (by have := h.hi; omega) hk, bind_s]
theorem mn_eq (a b : Int) : mn a b = min a b := by unfold mn; rw [Int.min_def]; split <;> split <;> omega
theorem sub_nat {a E : Int} (h : E ≤ a) (h1 : a - E < 1000000000000) : wrap64 (a - E) = (((a - E).toNat : Nat) : Int) := by
 rw [wrapS (by omega) (by omega)]; omega
theorem amounts_eq (s1 s2 : Bool) (a b : Nat) (e1 e2 E : Int) (k : Nat) (hE : E = min e1 e2) (ha : (ofN a).length ≤ 8192) (hb : (ofN b).length ≤ 8192) (l1 : -2000000 ≤ e1) (u1 : e1 ≤ 2000000) (l2 : -2000000 ≤ e2) (u2 : e2 ≤ 2000000) (hk : 100000000000000000 ≤ k) :
  raw_amounts.f k s1 (ofN a) e1 s2 (ofN b) e2 = some (ofN (a * 2 ^ (e1 - E).toNat), ofN (b * 2 ^ (e2 - E).toNat), E) := by
 unfold raw_amounts.f
 have h1 : E ≤ e1 := by omega
 have h2 : E ≤ e2 := by omega
 have h3 : (e1 - E).toNat ≤ 4000000 := by omega
 have h4 : (e2 - E).toNat ≤ 4000000 := by omega
 rw [mn_eq, ← hE, sub_nat h1 (by omega), sub_nat h2 (by omega)]
 generalize (e1 - E).toNat = i at *
 generalize (e2 - E).toNat = j at *
 rw [lShl_eq (ofN a) i k (ws_ofN a) (by omega) (by omega) (by omega), bind_s, lShl_eq (ofN b) j k (ws_ofN b) (by omega) (by omega) (by omega), bind_s, val_ofN, val_ofN]
theorem vl_parts {n : Nat} {e : Int} (h : lowE ≤ e) (s : Bool) : Vz (sg s (od n)) (e + (tz n : Int)) = Vz (sg s n) e := by
 rw [← Vz_shl h, ← sg_shl, od_mul]
theorem tz_small {n : Nat} (h : n ≠ 0) (hl : (ofN n).length ≤ 8192) : (tz n : Int) ≤ 600000 := by
 have := tz_lt h
 have := bl_len hl
 omega
end Go.Proofs.YtemfckibdojbbaaDoor.Nf

namespace Go.Proofs.YtemfckibdojbbaaDoor.Nf
open Go.RowKit Go.Proofs.YtemfckibdojbbaaDoor.PAll Go.Proofs.YtemfckibdojbbaaDoorW.PrintWords Go.Proofs.YtemfckibdojbbaaDoorW.PrintLast Go.Proofs.YtemfckibdojbbaaDoorW.PrintMore Go.Proofs.YtemfckibdojbbaaDoor.Nm
set_option linter.unusedVariables false
set_option linter.unusedSimpArgs false
structure Rs (l : List Int) (e : Int) : Prop where
 ws : Ws l
 len : l.length < 17592186044000
 sm : (ofN (val l)).length ≤ 2000
 lo : -200000 ≤ e
 hi : e ≤ 200000
theorem Rs.t {l : List Int} {e : Int} (h : Rs l e) : Rt l e := ⟨h.ws, h.len, by have := h.sm; omega, by have := h.lo; omega, by have := h.hi; omega⟩
theorem rs_fits {l : List Int} {e : Int} (hw : Ws l) (hl : l.length < 17592186044000) (h : fits (val l) e = true) : Rs l e := by
 obtain ⟨a, b, c⟩ := fits_iff.1 h
 exact ⟨hw, hl, by have := len_big a; omega, by omega, by omega⟩
end Go.Proofs.YtemfckibdojbbaaDoor.Nf
