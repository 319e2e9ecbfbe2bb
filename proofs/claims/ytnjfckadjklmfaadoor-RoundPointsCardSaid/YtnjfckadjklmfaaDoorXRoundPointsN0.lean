/- Plain part. -/
import Derived.Test.YtnjfckadjklmfaaDoorXRoundPointsP0
import Derived.Test.YtnjfckadjklmfaaDoorXRoundPointsP12
import Derived.Test.YtnjfckadjklmfaaDoorXRoundPointsP14
import Derived.Test.YtnjfckadjklmfaaDoorXRoundPointsP15
import Derived.Laws.BitsAllLaws
import Derived.Test.YtnjfckadjklmfaaDoorXRoundPointsP1
import Derived.Test.YtnjfckadjklmfaaDoorXRoundPointsP2
import Derived.Test.YtnjfckadjklmfaaDoorXRoundPointsP3
import Derived.Laws.Bits64b
import Derived.Laws.Closers25b
namespace Go.Proofs.YtnjfckadjklmfaaDoor.Nm
set_option linter.unusedVariables false
def val : List Int → Nat
 | [] => 0
 | w :: l => w.toNat + 18446744073709551616 * val l
def Ws (l : List Int) : Prop := ∀ x ∈ l, 0 ≤ x ∧ x < 18446744073709551616
def Nrm : List Int → Prop
 | [] => True
 | [w] => w ≠ 0
 | _ :: l => Nrm l
def ofN (n : Nat) : List Int := if n = 0 then [] else ((n % 18446744073709551616 : Nat) : Int) :: ofN (n / 18446744073709551616)
termination_by n
decreasing_by omega
theorem ofN_zero : ofN 0 = [] := by unfold ofN; simp
theorem ofN_pos {n : Nat} (h : n ≠ 0) : ofN n = ((n % 18446744073709551616 : Nat) : Int) :: ofN (n / 18446744073709551616) := by
 rw [ofN]; simp [h]
theorem ws_nil : Ws [] := fun _ h => by cases h
theorem ws_cons {w : Int} {l : List Int} : Ws (w :: l) ↔ (0 ≤ w ∧ w < 18446744073709551616) ∧ Ws l := by
 unfold Ws; simp
theorem ws_take {l : List Int} (h : Ws l) (n : Nat) : Ws (l.take n) := fun x hx => h x (List.mem_of_mem_take hx)
theorem ws_drop {l : List Int} (h : Ws l) (n : Nat) : Ws (l.drop n) := fun x hx => h x (List.mem_of_mem_drop hx)
theorem ws_set {l : List Int} (h : Ws l) (i : Nat) {w : Int} (h0 : 0 ≤ w) (h1 : w < 18446744073709551616) : Ws (l.set i w) := by
 intro x hx
 rcases List.mem_or_eq_of_mem_set hx with hx | rfl
 ·exact h x hx
 exact ⟨h0, h1⟩
theorem ws_replicate (n : Nat) : Ws (List.replicate n 0) := by
 intro x hx
 obtain ⟨_, rfl⟩ := List.mem_replicate.1 hx
 omega
theorem ws_get {l : List Int} (h : Ws l) (i : Nat) : 0 ≤ l.getD i 0 ∧ l.getD i 0 < 18446744073709551616 := by
 by_cases hi : i < l.length
 ·rw [List.getD_eq_getElem?_getD, List.getElem?_eq_getElem hi]
  exact h _ (List.getElem_mem hi)
 rw [List.getD_eq_getElem?_getD, List.getElem?_eq_none (by omega)]
 simp
theorem val_nil : val [] = 0 := rfl
theorem val_cons (w : Int) (l : List Int) : val (w :: l) = w.toNat + 18446744073709551616 * val l := rfl
theorem val_append (a b : List Int) : val (a ++ b) = val a + 18446744073709551616 ^ a.length * val b := by
 induction a with
 | nil => simp [val]
 | cons w a ih =>
  rw [List.cons_append, val_cons, val_cons, ih, List.length_cons, Nat.pow_succ, Nat.mul_add, ← Nat.add_assoc]
  congr 1
  rw [← Nat.mul_assoc, Nat.mul_comm 18446744073709551616 (18446744073709551616 ^ a.length), Nat.mul_assoc]
theorem val_replicate (n : Nat) : val (List.replicate n 0) = 0 := by
 induction n with
 | zero => rfl
 | succ n ih => rw [List.replicate_succ, val_cons, ih]; rfl
theorem val_lt {l : List Int} (h : Ws l) : val l < 18446744073709551616 ^ l.length := by
 induction l with
 | nil => simp [val]
 | cons w l ih =>
  obtain ⟨hw, hl⟩ := ws_cons.1 h
  have := ih hl
  rw [val_cons, List.length_cons, Nat.pow_succ]
  generalize 18446744073709551616 ^ l.length = p at *
  omega
theorem val_take_succ (l : List Int) (i : Nat) (hi : i < l.length) : val (l.take (i + 1)) = val (l.take i) + 18446744073709551616 ^ i * (l.getD i 0).toNat := by
 rw [List.take_succ_eq_append_getElem hi, val_append, List.length_take, Nat.min_eq_left (by omega), List.getD_eq_getElem?_getD, List.getElem?_eq_getElem hi]
 simp [val]
theorem val_take_ge (l : List Int) (i : Nat) (hi : l.length ≤ i) : val (l.take i) = val l := by rw [List.take_of_length_le hi]
theorem val_take_drop (l : List Int) (i : Nat) (hi : i ≤ l.length) : val l = val (l.take i) + 18446744073709551616 ^ i * val (l.drop i) := by
 conv => lhs; rw [← List.take_append_drop i l]
 rw [val_append, List.length_take, Nat.min_eq_left hi]
theorem val_set_take (l : List Int) (i : Nat) (w : Int) (hi : i < l.length) : val ((l.set i w).take (i + 1)) = val (l.take i) + 18446744073709551616 ^ i * w.toNat := by
 rw [val_take_succ _ _ (by rw [List.length_set]; exact hi), List.take_set_of_le (Nat.le_refl i)]
 simp [hi]
theorem getD_set_ne (l : List Int) (i j : Nat) (w : Int) (h : i ≠ j) : (l.set i w).getD j 0 = l.getD j 0 := by
 simp [List.getD_eq_getElem?_getD, List.getElem?_set_ne h]
theorem getD_set_eq (l : List Int) (i : Nat) (w : Int) (h : i < l.length) : (l.set i w).getD i 0 = w := by
 simp [List.getD_eq_getElem?_getD, h]
theorem getD_ge (l : List Int) (i : Nat) (h : l.length ≤ i) : l.getD i 0 = 0 := by
 rw [List.getD_eq_getElem?_getD, List.getElem?_eq_none h]; rfl
theorem take_succ_getD (l : List Int) (i : Nat) : val (l.take (i + 1)) = val (l.take i) + 18446744073709551616 ^ i * (l.getD i 0).toNat := by
 by_cases h : i < l.length
 ·exact val_take_succ l i h
 rw [getD_ge _ _ (by omega), val_take_ge _ _ (by omega), val_take_ge _ _ (by omega)]; simp
theorem val_ofN (n : Nat) : val (ofN n) = n := by
 induction n using Nat.strongRecOn with
 | _ n ih =>
  by_cases h : n = 0
  ·subst h; rw [ofN_zero]; rfl
  rw [ofN_pos h, val_cons, ih _ (by omega)]; simp only [Int.toNat_natCast]; omega
theorem ws_ofN (n : Nat) : Ws (ofN n) := by
 induction n using Nat.strongRecOn with
 | _ n ih =>
  by_cases h : n = 0
  ·subst h; rw [ofN_zero]; exact ws_nil
  rw [ofN_pos h]; exact ws_cons.2 ⟨by omega, ih _ (by omega)⟩
theorem nrm_pos {w : Int} {l : List Int} (hw : Ws (w :: l)) (hn : Nrm (w :: l)) : val (w :: l) ≠ 0 := by
 induction l generalizing w with
 | nil =>
  have := (ws_cons.1 hw).1
  have hn' : w ≠ 0 := hn
  rw [val_cons, val_nil]; omega
 | cons v l ih =>
  have h2 : Nrm (v :: l) := hn
  have := ih (ws_cons.1 hw).2 h2
  rw [val_cons]; omega
theorem eq_ofN {l : List Int} (hw : Ws l) (hn : Nrm l) : l = ofN (val l) := by
 induction l with
 | nil => rw [val_nil, ofN_zero]
 | cons w l ih =>
  have h0 := nrm_pos hw hn
  obtain ⟨h1, h2⟩ := ws_cons.1 hw
  rw [ofN_pos h0]
  have hl : Nrm l := by
   cases l with
   | nil => trivial
   | cons v l => exact hn
  have e1 : ((val (w :: l) % 18446744073709551616 : Nat) : Int) = w := by rw [val_cons]; omega
  have e2 : val (w :: l) / 18446744073709551616 = val l := by rw [val_cons]; omega
  rw [e1, e2, ← ih h2 hl]
theorem ofN_len (n m : Nat) : (ofN n).length ≤ m ↔ n < 18446744073709551616 ^ m := by
 induction m generalizing n with
 | zero =>
  by_cases h : n = 0
  ·subst h; rw [ofN_zero]; simp
  rw [ofN_pos h]; simp; omega
 | succ m ih =>
  by_cases h : n = 0
  ·subst h; rw [ofN_zero]; simp; exact Nat.pow_pos (by decide)
  rw [ofN_pos h, List.length_cons, Nat.pow_succ]
  have := ih (n / 18446744073709551616)
  rw [Nat.div_lt_iff_lt_mul (by decide)] at this
  omega
theorem nrm_of_last {l : List Int} {w : Int} (h : w ≠ 0) : Nrm (l ++ [w]) := by
 induction l with
 | nil => exact h
 | cons v l ih =>
  cases l with
  | nil => exact h
  | cons u l => exact ih
def cmpI (a b : Nat) : Int := if a < b then -1 else if a = b then 0 else 1
theorem pow_pos (n : Nat) : 0 < 18446744073709551616 ^ n := Nat.pow_pos (by decide)
theorem lex_lt {p a b x y : Nat} (ha : a < p) (h : x < y) : a + p * x < b + p * y := by
 have : p * (x + 1) ≤ p * y := Nat.mul_le_mul_left p h
 rw [Nat.mul_add] at this
 omega
theorem cmpI_top {p a b x y : Nat} (ha : a < p) (hb : b < p) : cmpI (a + p * x) (b + p * y) = if x < y then -1 else if x > y then 1 else cmpI a b := by
 unfold cmpI
 by_cases h : x < y
 ·have := lex_lt (b := b) ha h
  rw [if_pos this, if_pos h]
 rw [if_neg h]
 by_cases g : x > y
 ·have := lex_lt (b := a) hb g
  rw [if_neg (by omega), if_neg (by omega), if_pos g]
 have : x = y := by omega
 subst this
 rw [if_neg g]
 by_cases c : a < b
 ·rw [if_pos c, if_pos (by omega)]
 rw [if_neg c, if_neg (by omega)]
 by_cases d : a = b
 ·rw [if_pos d, if_pos (by omega)]
 rw [if_neg d, if_neg (by omega)]
theorem cmpI_len {a b : Nat} (h : (ofN a).length < (ofN b).length) : a < b := by
 have h1 := (ofN_len a (ofN a).length).1 (Nat.le_refl _)
 have h2 : ¬ b < 18446744073709551616 ^ (ofN a).length := fun g => by
  have := (ofN_len b (ofN a).length).2 g
  omega
 omega
def big : Nat := 18446744073709551616 ^ 1024
theorem ofN_big (v : Nat) : (ofN v).length ≤ 1024 ↔ v < big := by unfold big; exact ofN_len v 1024
end Go.Proofs.YtnjfckadjklmfaaDoor.Nm

namespace Go.Proofs.YtnjfckadjklmfaaDoor.Nm
set_option linter.unusedVariables false
def bl (n : Nat) : Nat := if n = 0 then 0 else bl (n / 2) + 1
termination_by n
decreasing_by omega
theorem bl_zero : bl 0 = 0 := by unfold bl; simp
theorem bl_pos {n : Nat} (h : n ≠ 0) : bl n = bl (n / 2) + 1 := by rw [bl]; simp [h]
theorem bl_spec (n : Nat) : n < 2 ^ bl n ∧ (n ≠ 0 → 2 ^ bl n ≤ 2 * n) := by
 induction n using Nat.strongRecOn with
 | _ n ih =>
  by_cases h : n = 0
  ·subst h; rw [bl_zero]; simp
  obtain ⟨a, b⟩ := ih (n / 2) (by omega)
  rw [bl_pos h, Nat.pow_succ]
  refine ⟨by omega, fun _ => ?_⟩
  by_cases g : n / 2 = 0
  ·rw [g, bl_zero]; omega
  have := b g; omega
theorem bl_lt (n : Nat) : n < 2 ^ bl n := (bl_spec n).1
theorem bl_le {n : Nat} (h : n ≠ 0) : 2 ^ bl n ≤ 2 * n := (bl_spec n).2 h
theorem bl_ne {n : Nat} (h : n ≠ 0) : bl n ≠ 0 := by rw [bl_pos h]; omega
theorem bl_unique {n m : Nat} (h : 2 ^ m ≤ n) (g : n < 2 ^ (m + 1)) : bl n = m + 1 := by
 have hn : n ≠ 0 := by have : 0 < 2 ^ m := Nat.pow_pos (by decide); omega
 have a := bl_lt n; have b := bl_le hn
 have c : m < bl n := (Nat.pow_lt_pow_iff_right (a := 2) (by decide)).1 (by omega)
 have d : bl n < m + 2 := (Nat.pow_lt_pow_iff_right (a := 2) (by decide)).1 (by rw [Nat.pow_succ] at *; omega)
 omega
theorem bl_le_iff {n m : Nat} : bl n ≤ m ↔ n < 2 ^ m := by
 constructor
 ·intro h; exact Nat.lt_of_lt_of_le (bl_lt n) (Nat.pow_le_pow_right (by decide) h)
 intro h
 by_cases g : n = 0
 ·rw [g, bl_zero]; omega
 have b := bl_le g
 have : bl n < m + 1 := (Nat.pow_lt_pow_iff_right (a := 2) (by decide)).1 (by rw [Nat.pow_succ]; omega)
 omega
theorem bl_shl {n : Nat} (h : n ≠ 0) (m : Nat) : bl (n * 2 ^ m) = bl n + m := by
 have a := bl_lt n; have b := bl_le h; have c := bl_ne h
 have e : bl n + m = (bl n - 1 + m) + 1 := by omega
 have e2 : bl n = (bl n - 1) + 1 := by omega
 rw [e]
 apply bl_unique
 ·rw [e2, Nat.pow_succ] at b
  rw [Nat.pow_add]; exact Nat.mul_le_mul_right _ (by omega)
 rw [← e, Nat.pow_add]; exact Nat.mul_lt_mul_of_pos_right a (Nat.pow_pos (by decide))
theorem bl_mono {a b : Nat} (h : a ≤ b) : bl a ≤ bl b := bl_le_iff.2 (Nat.lt_of_le_of_lt h (bl_lt b))
theorem bl_top {v w m : Nat} (hv : v < 18446744073709551616 ^ m) (hw : w ≠ 0) : bl (v + 18446744073709551616 ^ m * w) = 64 * m + bl w := by
 have a := bl_lt w; have b := bl_le hw; have c := bl_ne hw
 have e : (18446744073709551616 : Nat) ^ m = 2 ^ (64 * m) := by rw [Nat.pow_mul]
 rw [e] at hv ⊢
 have e3 : 64 * m + bl w = (64 * m + (bl w - 1)) + 1 := by omega
 rw [e3]
 apply bl_unique
 ·have : 2 ^ (64 * m) * 2 ^ (bl w - 1) ≤ 2 ^ (64 * m) * w := by
   refine Nat.mul_le_mul_left _ ?_
   have e2 : bl w = (bl w - 1) + 1 := by omega
   rw [e2, Nat.pow_succ] at b; omega
  rw [Nat.pow_add]; omega
 rw [← e3, Nat.pow_add]
 have : 2 ^ (64 * m) * (w + 1) ≤ 2 ^ (64 * m) * 2 ^ bl w := Nat.mul_le_mul_left _ (by omega)
 rw [Nat.mul_add] at this; omega
theorem big_lt_iff {x : Nat} : x < big ↔ bl x ≤ 65536 := by
 have h : ∀ m, x < 18446744073709551616 ^ m ↔ bl x ≤ 64 * m := fun m => by
  have e : (18446744073709551616 : Nat) ^ m = 2 ^ (64 * m) := by rw [Nat.pow_mul]
  rw [e, bl_le_iff]
 unfold big
 exact h 1024
theorem shl_big {v n : Nat} (h : v ≠ 0) : v * 2 ^ n < big ↔ bl v + n ≤ 65536 := by
 rw [big_lt_iff, bl_shl h]
theorem shr_step {S T P x0 X a c r B lo : Nat} (hB : S * T = B) (hr : r = a / S + T * (c % S)) (hv : S * lo + x0 = X + P * (a % S)) : S * (lo + P * r) + x0 = X + P * a + P * B * (c % S) := by
 have e := Nat.div_add_mod a S
 rw [hr, Nat.mul_add, Nat.mul_add P, Nat.mul_add, ← hB]
 have e2 : S * (P * (a / S)) + P * (a % S) = P * a := by rw [← Nat.mul_assoc, Nat.mul_comm S P, Nat.mul_assoc, ← Nat.mul_add, e]
 have e3 : S * (P * (T * (c % S))) = P * (S * T) * (c % S) := by
  rw [← Nat.mul_assoc S P, Nat.mul_comm S P, Nat.mul_assoc, ← Nat.mul_assoc S T, ← Nat.mul_assoc P]
 rw [e3]; omega
theorem shr_end {S r x0 X : Nat} (h0 : x0 < S) (h : S * r + x0 = X) : r = X / S ∧ x0 = X % S := by
 subst h
 constructor
 ·rw [Nat.mul_add_div (by omega), Nat.div_eq_of_lt h0]; rfl
 rw [Nat.mul_add_mod, Nat.mod_eq_of_lt h0]
theorem shr_all {P S t X v : Nat} (ht : t < P) (hv : v = t + P * X) : v / (P * S) = X / S ∧ v % (P * S) = t + P * (X % S) := by
 have hp : 0 < P := by omega
 subst hv
 have e : (t + P * X) / P = X := by rw [Nat.add_mul_div_left _ _ hp, Nat.div_eq_of_lt ht]; omega
 have e2 : (t + P * X) % P = t := by rw [Nat.add_mul_mod_self_left, Nat.mod_eq_of_lt ht]
 constructor
 ·rw [← Nat.div_div_eq_div_mul, e]
 rw [Nat.mod_mul, e, e2]
theorem ofN_ne {v : Nat} : ofN v = [] ↔ v = 0 := by
 constructor
 ·intro h; have := val_ofN v; rw [h] at this; exact this.symm
 intro h; rw [h, ofN_zero]
end Go.Proofs.YtnjfckadjklmfaaDoor.Nm

namespace Go.Proofs.YtnjfckadjklmfaaDoor.Nm
def rnd (v n : Nat) : Nat := v / 2 ^ n + if v / 2 ^ (n - 1) % 2 = 1 ∧ (v % 2 ^ (n - 1) ≠ 0 ∨ v / 2 ^ n % 2 = 1) then 1 else 0
theorem two_pow_pos' (n : Nat) : 0 < 2 ^ n := Nat.pow_pos (by decide)
theorem rnd_char (v : Nat) {n : Nat} (h : 1 ≤ n) : rnd v n = v / 2 ^ n + if 2 ^ n < 2 * (v % 2 ^ n) ∨ (2 * (v % 2 ^ n) = 2 ^ n ∧ v / 2 ^ n % 2 = 1) then 1 else 0 := by
 unfold rnd
 congr 1
 obtain ⟨m, rfl⟩ : ∃ m, n = m + 1 := ⟨n - 1, by omega⟩
 rw [Nat.add_sub_cancel]
 have hp := two_pow_pos' m
 have e1 := Nat.div_add_mod v (2 ^ (m + 1))
 have l1 := Nat.mod_lt v (two_pow_pos' (m + 1))
 rw [Nat.pow_succ] at *
 generalize hq : v / (2 ^ m * 2) = q at *
 generalize hr : v % (2 ^ m * 2) = r at *
 generalize 2 ^ m = M at *
 have d : v / M % 2 = (if M ≤ r then 1 else 0) ∧ v % M = (if M ≤ r then r - M else r) := by
  by_cases c : M ≤ r
  ·rw [if_pos c, if_pos c]
   have e : v = M * (2 * q + 1) + (r - M) := by
    rw [← e1, Nat.mul_add, Nat.mul_one, Nat.mul_assoc]; omega
   constructor
   ·rw [e, Nat.mul_add_div hp, Nat.div_eq_of_lt (by omega)]; omega
   rw [e, Nat.mul_add_mod, Nat.mod_eq_of_lt (by omega)]
  rw [if_neg c, if_neg c]
  have e : v = M * (2 * q) + r := by rw [← e1, Nat.mul_assoc]
  constructor
  ·rw [e, Nat.mul_add_div hp, Nat.div_eq_of_lt (by omega)]; omega
  rw [e, Nat.mul_add_mod, Nat.mod_eq_of_lt (by omega)]
 rw [d.1, d.2]
 by_cases c : M ≤ r
 ·rw [if_pos c, if_pos c]
  by_cases x : r = M
  ·subst x
   by_cases y : q % 2 = 1
   ·rw [if_pos ⟨rfl, .inr y⟩, if_pos (.inr ⟨by omega, y⟩)]
   rw [if_neg (by omega), if_neg (by omega)]
  rw [if_pos ⟨rfl, .inl (by omega)⟩, if_pos (.inl (by omega))]
 rw [if_neg c, if_neg (by omega), if_neg (by omega)]
theorem rnd_ge {v m n : Nat} (h : m * 2 ^ n ≤ v) : m ≤ rnd v n := by
 have := (Nat.le_div_iff_mul_le (two_pow_pos' n)).2 h
 unfold rnd
 exact Nat.le_trans this (Nat.le_add_right _ _)
theorem rnd_le {v m n : Nat} (hn : 1 ≤ n) (h : v ≤ m * 2 ^ n) : rnd v n ≤ m := by
 rw [rnd_char v hn]
 have e := Nat.div_add_mod v (2 ^ n)
 have hp := two_pow_pos' n
 generalize v / 2 ^ n = q at *
 generalize v % 2 ^ n = r at *
 generalize 2 ^ n = P at *
 rcases Nat.lt_trichotomy q m with c | c | c
 ·split <;> omega
 ·subst c
  have : r = 0 := by
   rw [Nat.mul_comm] at h; omega
  subst this
  split
  ·omega
  omega
 have : m * P + P ≤ q * P := by
  have := Nat.mul_le_mul_right P c
  rw [Nat.succ_mul] at this; exact this
 rw [Nat.mul_comm P q] at e
 omega
end Go.Proofs.YtnjfckadjklmfaaDoor.Nm

namespace Go.Proofs.YtnjfckadjklmfaaDoor.Nm
theorem P52 : (2 : Nat) ^ 52 = 4503599627370496 := by decide
theorem P53 : (2 : Nat) ^ 53 = 9007199254740992 := by decide
def INn : Nat := 9218868437227405312
def shA (K A : Nat) : Nat := max (bl A - 53) K
def cdA (K A : Nat) : Nat := (shA K A - K) * 4503599627370496 + rnd A (shA K A)
def mbA (K A : Nat) : Nat := min INn (cdA K A)
def lsA (K A : Nat) : Prop := INn ≤ cdA K A ∨ A % 2 ^ shA K A ≠ 0
def tyA (K A : Nat) : Prop := rnd A (K - 1) < 9007199254740992
theorem rnd_zero (n : Nat) : rnd 0 n = 0 := by unfold rnd; simp
theorem tyA_zero (K : Nat) : tyA K 0 := by unfold tyA; rw [rnd_zero]; decide
theorem cdA_zero (K : Nat) : cdA K 0 = 0 := by unfold cdA shA; rw [rnd_zero, bl_zero]; simp
def tC (c : Nat) : Nat := c / 4503599627370496 - 1
def mC (c : Nat) : Nat := if c < 4503599627370496 then c else c % 4503599627370496 + 4503599627370496
def amc (K c : Nat) : Nat := mC c * 2 ^ (K + tC c)
theorem c_parts (c : Nat) : c = tC c * 4503599627370496 + mC c ∧ mC c < 9007199254740992 ∧ (4503599627370496 ≤ mC c ∨ tC c = 0) := by
 unfold tC mC; split <;> omega
theorem rnd_of {m n r : Nat} (hn : 1 ≤ n) (hr : r < 2 ^ n) : rnd (m * 2 ^ n + r) n = m + if 2 ^ n < 2 * r ∨ (2 * r = 2 ^ n ∧ m % 2 = 1) then 1 else 0 := by
 rw [rnd_char _ hn, show (m * 2 ^ n + r) / 2 ^ n = m by rw [Nat.mul_comm, Nat.mul_add_div (two_pow_pos' n), Nat.div_eq_of_lt hr, Nat.add_zero], show (m * 2 ^ n + r) % 2 ^ n = r by rw [Nat.mul_comm, Nat.mul_add_mod, Nat.mod_eq_of_lt hr]]
theorem rnd_mul (m : Nat) {n : Nat} (hn : 1 ≤ n) : rnd (m * 2 ^ n) n = m := by
 have := rnd_of (m := m) (n := n) (r := 0) hn (two_pow_pos' n)
 rw [Nat.add_zero] at this
 rw [this, if_neg (by have := two_pow_pos' n; omega), Nat.add_zero]
theorem shA_of {K t m r : Nat} (hm : m < 9007199254740992) (g : 4503599627370496 ≤ m ∨ t = 0) (hr : r < 2 ^ (K + t)) : shA K (m * 2 ^ (K + t) + r) = K + t := by
 have up : bl (m * 2 ^ (K + t) + r) ≤ 53 + (K + t) := by
  rw [bl_le_iff, Nat.pow_add 2 53 (K + t), P53]
  have := Nat.mul_le_mul_right (2 ^ (K + t)) (show m + 1 ≤ 9007199254740992 from hm)
  rw [Nat.succ_mul] at this
  generalize m * 2 ^ (K + t) = X at *
  omega
 rcases g with g | g
 ·have lo : 52 + (K + t) < bl (m * 2 ^ (K + t) + r) := by
   refine Nat.not_le.1 fun c => ?_
   rw [bl_le_iff, Nat.pow_add 2 52 (K + t), P52] at c
   have := Nat.mul_le_mul_right (2 ^ (K + t)) g
   generalize m * 2 ^ (K + t) = X at *
   omega
  unfold shA; omega
 subst g; unfold shA; omega
theorem cdA_of {K c r : Nat} (hr : r < 2 ^ (K + tC c)) (hK : 1 ≤ K) : cdA K (amc K c + r) = c + (if 2 ^ (K + tC c) < 2 * r ∨ (2 * r = 2 ^ (K + tC c) ∧ c % 2 = 1) then 1 else 0) ∧ (amc K c + r) % 2 ^ shA K (amc K c + r) = r := by
 obtain ⟨p, q, s⟩ := c_parts c
 have sh := shA_of (K := K) (r := r) q s hr
 unfold cdA
 rw [show amc K c = mC c * 2 ^ (K + tC c) from rfl, sh, rnd_of (by omega) hr, Nat.add_sub_cancel_left]
 refine ⟨?_, by rw [Nat.mul_comm, Nat.mul_add_mod, Nat.mod_eq_of_lt hr]⟩
 have : mC c % 2 = c % 2 := by omega
 rw [this]
 generalize (if 2 ^ (K + tC c) < 2 * r ∨ 2 * r = 2 ^ (K + tC c) ∧ c % 2 = 1 then 1 else 0) = i
 omega
end Go.Proofs.YtnjfckadjklmfaaDoor.Nm

namespace Go.Proofs.YtnjfckadjklmfaaDoor.Nb
open Go.RowKit Go.Proofs.YtnjfckadjklmfaaDoor.PAll Go.Proofs.YtnjfckadjklmfaaDoorW.PrintWords Go.Proofs.YtnjfckadjklmfaaDoorW.PrintLast Go.Proofs.YtnjfckadjklmfaaDoorW.PrintMore
set_option linter.unusedVariables false
set_option linter.unusedSimpArgs false
def W64 (x : Int) : Prop := 0 ≤ x ∧ x < 18446744073709551616
theorem w64_of {x : Int} (h : (Lit.int .u64 x).wf = true) : W64 x := by
 simp [Lit.wf, IntKind.min, IntKind.max, IntKind.bits, IntKind.signed] at h
 unfold W64; omega
theorem wrapU {x : Int} (h0 : 0 ≤ x) (h1 : x < 18446744073709551616) : IntKind.u64.wrap x = x := by
 rw [IntKind.wrap_u64]; omega
theorem wrapS {x : Int} (h0 : -9223372036854775808 ≤ x) (h1 : x < 9223372036854775808) : wrap64 x = x := by
 unfold wrap64; omega
theorem tmodE {x m : Int} (h : 0 ≤ x) : Int.tmod x m = x % m := Int.tmod_eq_emod_of_nonneg h
theorem toNat_cast {x : Int} (h : 0 ≤ x) : ((x.toNat : Nat) : Int) = x := Int.toNat_of_nonneg h
theorem and_pow {x : Int} (i : Nat) (hx : W64 x) (hi : i < 64) : Go.bits .and .u64 x (((2 ^ i : Nat) : Int)) = x / ((2 ^ i : Nat) : Int) % 2 * ((2 ^ i : Nat) : Int) := by
 have hp : (2 ^ i : Nat) < 18446744073709551616 := by
  have := Nat.pow_lt_pow_right (a := 2) (by decide) hi
  omega
 rw [u64_and x _ hx.1 hx.2 (Int.natCast_nonneg _) (by omega), Int.toNat_natCast, nat_bit]
 rw [Int.natCast_mul, Int.natCast_emod, Int.natCast_ediv, toNat_cast hx.1]; rfl
theorem and_mask {x : Int} (i : Nat) (hx : W64 x) (hi : i ≤ 64) : Go.bits .and .u64 x (((2 ^ i - 1 : Nat) : Int)) = x % ((2 ^ i : Nat) : Int) := by
 have hp : (2 ^ i : Nat) ≤ 18446744073709551616 := by
  have := Nat.pow_le_pow_right (n := 2) (by decide) hi
  omega
 have hp0 : 0 < (2 ^ i : Nat) := Nat.two_pow_pos i
 rw [u64_and x _ hx.1 hx.2 (Int.natCast_nonneg _) (by omega), Int.toNat_natCast, Nat.and_two_pow_sub_one_eq_mod, Int.natCast_emod, toNat_cast hx.1]
theorem or_pow {x : Int} (i : Nat) (hx : 0 ≤ x) (h : x < ((2 ^ i : Nat) : Int)) (hi : i < 64) : Go.bits .or .u64 x (((2 ^ i : Nat) : Int)) = x + ((2 ^ i : Nat) : Int) := by
 have hp : (2 ^ i : Nat) < 18446744073709551616 := by
  have := Nat.pow_lt_pow_right (a := 2) (by decide) hi
  omega
 rw [u64_or x _ hx (by omega) (Int.natCast_nonneg _) (by omega), Int.toNat_natCast, Nat.or_comm, nat_join i _ _ (Nat.mod_self _) (by omega), Int.natCast_add, toNat_cast hx]
 omega
theorem and_sign {x : Int} (hx : W64 x) : Go.bits .and .u64 x 9223372036854775808 = if x < 9223372036854775808 then 0 else 9223372036854775808 := by
 have h := and_pow 63 hx (by decide)
 have e : ((2 ^ 63 : Nat) : Int) = 9223372036854775808 := by decide
 rw [e] at h; rw [h]; unfold W64 at hx
 split <;> omega
theorem and_quiet {x : Int} (hx : W64 x) : Go.bits .and .u64 x 2251799813685248 = x / 2251799813685248 % 2 * 2251799813685248 := by
 have h := and_pow 51 hx (by decide)
 have e : ((2 ^ 51 : Nat) : Int) = 2251799813685248 := by decide
 rw [e] at h; exact h
theorem and_2047 {x : Int} (hx : W64 x) : Go.bits .and .u64 x 2047 = x % 2048 := by
 have h := and_mask 11 hx (by decide)
 have e : ((2 ^ 11 : Nat) : Int) = 2048 := by decide
 have e' : ((2 ^ 11 - 1 : Nat) : Int) = 2047 := by decide
 rw [e, e'] at h; exact h
theorem and_frac {x : Int} (hx : W64 x) : Go.bits .and .u64 x 4503599627370495 = x % 4503599627370496 := by
 have h := and_mask 52 hx (by decide)
 have e : ((2 ^ 52 : Nat) : Int) = 4503599627370496 := by decide
 have e' : ((2 ^ 52 - 1 : Nat) : Int) = 4503599627370495 := by decide
 rw [e, e'] at h; exact h
theorem or_one52 {x : Int} (h0 : 0 ≤ x) (h1 : x < 4503599627370496) : Go.bits .or .u64 x 4503599627370496 = x + 4503599627370496 := by
 have e : ((2 ^ 52 : Nat) : Int) = 4503599627370496 := by decide
 have h := or_pow 52 h0 (by rw [e]; exact h1) (by decide)
 rw [e] at h; exact h
theorem andNot_sign {x : Int} (hx : W64 x) : Go.bits .andNot .u64 x 9223372036854775808 = x % 9223372036854775808 := by
 have h := and_mask 63 hx (by decide)
 have e : ((2 ^ 63 : Nat) : Int) = 9223372036854775808 := by decide
 have e' : ((2 ^ 63 - 1 : Nat) : Int) = 9223372036854775807 := by decide
 rw [e, e'] at h; rw [← h]
 rw [u64_andNot x _ hx.1 hx.2 (by decide) (by decide), u64_and x _ hx.1 hx.2 (by decide) (by decide)]
 rfl
theorem xor_sign {x : Int} (hx : W64 x) : Go.bits .xor .u64 x 9223372036854775808 = if x < 9223372036854775808 then x + 9223372036854775808 else x - 9223372036854775808 := by
 rw [u64_xor x _ hx.1 hx.2 (by decide) (by decide)]
 have hx0 := hx.1; have hx1 := hx.2
 obtain ⟨n, rfl⟩ := Int.eq_ofNat_of_zero_le hx0
 have e : (9223372036854775808 : Int).toNat = 2 ^ 63 := by decide
 rw [Int.toNat_natCast, e]
 have hn : n < 2 ^ 64 := by omega
 have h2 : n ^^^ 2 ^ 63 = if n < 2 ^ 63 then n + 2 ^ 63 else n - 2 ^ 63 := by
  have hb : ∀ m : Nat, m < 2 ^ 63 → m ^^^ 2 ^ 63 = m + 2 ^ 63 := by
   intro m hm
   rw [Nat.xor_comm]
   have := Nat.two_pow_add_eq_or_of_lt hm 1
   rw [Nat.mul_one] at this
   rw [Nat.add_comm, this]
   apply Nat.eq_of_testBit_eq
   intro i
   rw [Nat.testBit_xor, Nat.testBit_or]
   rw [Nat.testBit_two_pow]
   by_cases hi : 63 = i
   ·subst hi
    rw [Nat.testBit_lt_two_pow hm]; simp
   simp [hi]
  split
  ·rename_i h; exact hb n h
  rename_i h
  have := hb (n - 2 ^ 63) (by omega)
  have e2 : n - 2 ^ 63 + 2 ^ 63 = n := by omega
  rw [e2] at this
  have h3 : (n - 2 ^ 63) ^^^ 2 ^ 63 ^^^ 2 ^ 63 = n ^^^ 2 ^ 63 := by rw [this]
  rw [Nat.xor_assoc, Nat.xor_self, Nat.xor_zero] at h3
  exact h3.symm
 rw [h2]
 split <;> split <;> omega
end Go.Proofs.YtnjfckadjklmfaaDoor.Nb
namespace Go.Proofs.YtnjfckadjklmfaaDoor.Nb
open Go.RowKit Go.Proofs.YtnjfckadjklmfaaDoor.PAll Go.Proofs.YtnjfckadjklmfaaDoorW.PrintWords Go.Proofs.YtnjfckadjklmfaaDoorW.PrintLast Go.Proofs.YtnjfckadjklmfaaDoorW.PrintMore
set_option linter.unusedVariables false
set_option linter.unusedSimpArgs false
def am (x : Int) : Int := x % 9223372036854775808
def pl (x : Int) : Int := if x < 9223372036854775808 then x else -(x % 9223372036854775808)
def isNum (x : Int) : Prop := x % 9223372036854775808 ≤ 9218868437227405312
def isFin (x : Int) : Prop := x % 9223372036854775808 < 9218868437227405312
instance (x : Int) : Decidable (isNum x) := inferInstanceAs (Decidable (_ ≤ _))
instance (x : Int) : Decidable (isFin x) := inferInstanceAs (Decidable (_ < _))
def ex (x : Int) : Int := x / 4503599627370496 % 2048
def fr (x : Int) : Int := x % 4503599627370496
def up (x : Int) : Int := if isNum x then (if x = 9218868437227405312 then x else if x % 9223372036854775808 = 0 then 1 else if x < 9223372036854775808 then x + 1 else x - 1) else x
def ng (x : Int) : Int := if x < 9223372036854775808 then x + 9223372036854775808 else x - 9223372036854775808
def down (x : Int) : Int := if isNum x then (if x = 18442240474082181120 then x else if x % 9223372036854775808 = 0 then 9223372036854775809 else if x < 9223372036854775808 then x - 1 else x + 1) else x
def last (x : Int) : Int × Int := if isFin x then ((if ex x = 0 then 1 else ex x) - 1075, 0) else (0, 5)
def mant (x : Int) : Int := if ex x = 0 then fr x else fr x + 4503599627370496
def expo (x : Int) : Int := if ex x = 0 then -1074 else ex x - 1075
def cls (x : Int) : Int := if ex x = 0 then (if fr x = 0 then 1 else 2) else if ex x < 2047 then 3 else if fr x = 0 then 4 else if fr x ≥ 2251799813685248 then 5 else 6
def whole (x : Int) : Bool := decide (isFin x ∧ (mant x = 0 ∨ expo x ≥ 0 ∨ mant x % 2 ^ (-expo x).toNat = 0))
def odd (x : Int) : Bool := whole x && decide (expo x ≤ 0 ∧ mant x / 2 ^ (-expo x).toNat % 2 = 1)
theorem amount_eq {x : Int} (hx : W64 x) : bits_amount.f x = some (am x) := by
 unfold bits_amount.f am; rw [andNot_sign hx]
theorem number_eq {x : Int} (hx : W64 x) : bits_number.f x = some (decide (isNum x)) := by
 unfold bits_number.f; rw [amount_eq hx]; rfl
theorem finite_eq {x : Int} (hx : W64 x) : bits_finite.f x = some (decide (isFin x)) := by
 unfold bits_finite.f; rw [amount_eq hx]; rfl
theorem place_eq {x : Int} (hx : W64 x) : bits_place.f x = some (pl x) := by
 have h0 := hx.1; have h1 := hx.2
 unfold bits_place.f; rw [amount_eq hx, and_sign hx]; simp only [Option.bind_some]; unfold pl am wrap64
 by_cases h : x < 9223372036854775808
 ·rw [if_pos h, if_pos rfl, if_pos h]; congr 1; omega
 rw [if_neg h, if_neg (by decide), if_neg h]; congr 1; omega
theorem up_eq {k : Nat} {x : Int} (hk : 1 ≤ k) (hx : W64 x) : bits_Up.f k x = some (up x) := by
 obtain ⟨k, rfl⟩ : ∃ m, k = m + 1 := ⟨k - 1, by omega⟩
 have h0 := hx.1; have h1 := hx.2
 unfold bits_Up.f up; rw [number_eq hx]; simp only [Option.bind_some, bits_Up.j0]
 rw [amount_eq hx, and_sign hx]; simp only [Option.bind_some, am]
 by_cases h : isNum x
 ·simp only [h, decide_true, if_true]
  by_cases h2 : x = 9218868437227405312
  ·simp [h2]
  rw [if_neg (by simpa using h2), if_neg h2]
  by_cases h3 : x % 9223372036854775808 = 0
  ·rw [if_pos h3, if_pos h3]
  rw [if_neg h3, if_neg h3]
  simp only [IntKind.wrap_u64]
  by_cases h4 : x < 9223372036854775808
  ·simp only [h4, if_true]; congr 1; omega
  simp only [h4, if_false]; rw [if_neg (by decide)]; congr 1; omega
 simp [h]
theorem neg_eq {x : Int} (hx : W64 x) : bits_Neg.f x = some (ng x) := by
 unfold bits_Neg.f ng; rw [xor_sign hx]
theorem abs_eq {x : Int} (hx : W64 x) : bits_Abs.f x = some (am x) := by
 unfold bits_Abs.f; rw [amount_eq hx]; rfl
theorem less_eq {x y : Int} (hx : W64 x) (hy : W64 y) : bits_Less.f x y = some (decide (isNum x ∧ isNum y ∧ pl x < pl y)) := by
 unfold bits_Less.f; rw [number_eq hx, number_eq hy, place_eq hx, place_eq hy]; simp only [Option.bind_some]
 by_cases a : isNum x <;> by_cases b : isNum y <;> simp [a, b]
theorem split_eq {x : Int} (hx : W64 x) : bits_Split.f x = some (decide (9223372036854775808 ≤ x), ex x, fr x) := by
 have h0 := hx.1; have h1 := hx.2
 unfold bits_Split.f; rw [and_sign hx, and_2047 (by unfold W64; omega), and_frac hx, wrapS (by omega) (by omega)]
 unfold ex fr
 by_cases h : x < 9223372036854775808
 ·rw [if_pos h]; simp; omega
 rw [if_neg h]; simp; omega
theorem ex_bd {x : Int} (hx : W64 x) : 0 ≤ ex x ∧ ex x ≤ 2047 := by unfold ex; omega
theorem fr_bd {x : Int} (hx : W64 x) : 0 ≤ fr x ∧ fr x < 4503599627370496 := by unfold fr; omega
theorem isFin_iff {x : Int} (hx : W64 x) : isFin x ↔ ex x < 2047 := by have := hx.1; have := hx.2; unfold isFin ex; omega
theorem last_eq {x : Int} (hx : W64 x) : bits_Last.f x = some (last x) := by
 have b := ex_bd hx
 unfold bits_Last.f last; rw [finite_eq hx, split_eq hx]; simp only [Option.bind_some]
 by_cases h : isFin x
 ·simp only [h, decide_true, if_true]; unfold mx
  rw [wrapS (by split <;> omega) (by split <;> omega)]
  split <;> split <;> first | rfl | omega
 simp [h]
theorem class_eq {k : Nat} {x : Int} (hk : 2 ≤ k) (hx : W64 x) : bits_Class.f k x = some (cls x) := by
 obtain ⟨k, rfl⟩ : ∃ m, k = m + 2 := ⟨k - 2, by omega⟩
 have b := ex_bd hx; have c := fr_bd hx
 unfold bits_Class.f cls; rw [split_eq hx]; simp only [Option.bind_some, bits_Class.j0, bits_Class.j1]
 rw [and_quiet (by unfold W64; omega)]
 by_cases e : ex x = 2047
 ·by_cases f : fr x = 0
  ·simp [e, f]
  by_cases g : fr x ≥ 2251799813685248
  ·have h1 : ¬ fr x / 2251799813685248 % 2 * 2251799813685248 = 0 := by omega
   have h1' : (fr x / 2251799813685248 % 2 * 2251799813685248 != 0) = true := by simpa using h1
   rw [h1']; simp [e, f]; omega
  have h1 : fr x / 2251799813685248 % 2 * 2251799813685248 = 0 := by omega
  rw [h1]; simp [e, f]; omega
 simp only [e, if_false, Bool.false_eq_true]
 by_cases z : ex x = 0
 ·rw [if_neg (by omega), if_pos z]
  by_cases f : fr x = 0
  ·rw [if_neg (by omega), if_pos f]
  rw [if_pos (by omega), if_neg f]
 rw [if_pos (by omega), if_neg z, if_pos (by omega)]
theorem mant_bd {x : Int} (hx : W64 x) : 0 ≤ mant x ∧ mant x < 9007199254740992 := by
 have c := fr_bd hx; unfold mant; split <;> omega
theorem expo_bd {x : Int} (hx : W64 x) (h : isFin x) : -1074 ≤ expo x ∧ expo x ≤ 971 := by
 have b := ex_bd hx; have := (isFin_iff hx).1 h; unfold expo; split <;> omega
theorem pow_pos (a : Nat) : (0 : Int) < 2 ^ a := by
 have := Nat.two_pow_pos a
 exact_mod_cast this
theorem shr_eq {m : Int} {n : Nat} (hn : n < 64) : shr .u64 m n = m / 2 ^ n := by
 unfold shr
 have : min ((n : Int).toNat) IntKind.u64.bits = n := by
  simp [IntKind.bits]; omega
 rw [this]
end Go.Proofs.YtnjfckadjklmfaaDoor.Nb
namespace Go.Proofs.YtnjfckadjklmfaaDoor.Nb
open Go.RowKit Go.Proofs.YtnjfckadjklmfaaDoor.PAll Go.Proofs.YtnjfckadjklmfaaDoorW.PrintWords Go.Proofs.YtnjfckadjklmfaaDoorW.PrintLast Go.Proofs.YtnjfckadjklmfaaDoorW.PrintMore
set_option linter.unusedVariables false
set_option linter.unusedSimpArgs false
theorem rfinite_eq {x : Int} (hx : W64 x) : ulpref01_Finite.f x = some (decide (isFin x)) := by
 unfold ulpref01_Finite.f; rw [tmodE hx.1]; rfl
end Go.Proofs.YtnjfckadjklmfaaDoor.Nb

namespace Go.Proofs.YtnjfckadjklmfaaDoor.Nm
set_option linter.unusedVariables false
theorem val_drop (l : List Int) (i : Nat) (h : i < l.length) : val (l.drop i) = (l.getD i 0).toNat + 18446744073709551616 * val (l.drop (i + 1)) := by
 rw [List.drop_eq_getElem_cons h, val_cons, List.getD_eq_getElem?_getD, List.getElem?_eq_getElem h]; rfl
end Go.Proofs.YtnjfckadjklmfaaDoor.Nm

namespace Go.Proofs.YtnjfckadjklmfaaDoor.Nf
open Go.RowKit Go.Proofs.YtnjfckadjklmfaaDoor.PAll Go.Proofs.YtnjfckadjklmfaaDoorW.PrintWords Go.Proofs.YtnjfckadjklmfaaDoorW.PrintLast Go.Proofs.YtnjfckadjklmfaaDoorW.PrintMore Go.Proofs.YtnjfckadjklmfaaDoor.Nm
set_option linter.unusedVariables false
set_option linter.unusedSimpArgs false
theorem wrapU {x : Int} (h0 : 0 ≤ x) (h1 : x < 18446744073709551616) : IntKind.u64.wrap x = x := by
 rw [IntKind.wrap_u64]; omega
theorem wrapS {x : Int} (h0 : -9223372036854775808 ≤ x) (h1 : x < 9223372036854775808) : wrap64 x = x := by
 unfold wrap64; omega
theorem rd_nat (l : List Int) (j : Nat) : rd l (j : Int) = l.getD j 0 := by simp [rd]
theorem bind_s {α β : Type} (a : α) (f : α → Option β) : (some a).bind f = f a := by simp
theorem norm_eq (n : Nat) : ∀ (l : List Int) (k : Nat), l.length = n → Ws l → n < 4611686018427387904 → n < k → nat_norm.f k l = some (ofN (val l)) := by
 unfold nat_norm.f
 induction n with
 | zero =>
  intro l k hl hw hn hk
  obtain ⟨k, rfl⟩ : ∃ m, k = m + 1 := ⟨k - 1, by omega⟩
  obtain rfl := List.eq_nil_of_length_eq_zero hl
  simp [nat_norm.l0, val, ofN_zero]
 | succ n ih =>
  intro l k hl hw hn hk
  obtain ⟨k, rfl⟩ : ∃ m, k = m + 1 := ⟨k - 1, by omega⟩
  simp only [nat_norm.l0]
  have e : wrap64 ((l.length : Int) - 1) = (n : Int) := by rw [wrapS (by omega) (by omega)]; omega
  rw [e, if_pos (by omega), if_pos (by omega), if_pos (by omega), rd_nat]
  have hv := val_take_succ l n (by omega)
  rw [val_take_ge l (n + 1) (by omega)] at hv
  by_cases h : l.getD n 0 = 0
  ·rw [if_pos h, if_pos (by omega), Int.toNat_natCast, ih (l.take n) k (by rw [List.length_take]; omega) (ws_take hw n) (by omega) (by omega)]
   rw [h] at hv
   simp at hv; rw [hv]
  rw [if_neg h]
  congr 1
  refine eq_ofN hw ?_
  have hs : l = l.take n ++ [l.getD n 0] := by
   have := List.take_succ_eq_append_getElem (l := l) (i := n) (by omega)
   rw [List.take_of_length_le (by omega)] at this
   rw [List.getD_eq_getElem?_getD, List.getElem?_eq_getElem (by omega)]
   exact this
  rw [hs]; exact nrm_of_last h
theorem great_eq (l : List Int) : nat_number_great.f l = some (decide (1024 < l.length)) := by
 unfold nat_number_great.f; congr 1; rw [Bool.eq_iff_iff]; simp; omega
theorem great_ofN (v : Nat) : nat_number_great.f (ofN v) = some (decide (¬ v < big)) := by
 have e : (1024 < (ofN v).length) ↔ ¬ v < big := by rw [← ofN_big]; omega
 rw [great_eq, decide_eq_decide.2 e]
theorem one_eq (l : List Int) (k : Nat) (hw : Ws l) (hn : l.length < 4611686018427387904) (hk : l.length < k) :
  nat_one.f k l = some (if val l < big then (ofN (val l), 0) else ([], 3)) := by
 unfold nat_one.f; rw [norm_eq _ l k rfl hw hn hk]; simp only [bind_s]; rw [great_ofN]; simp only [bind_s]
 by_cases h : val l < big <;> simp [h]
theorem own_eq (l : List Int) (h : l.length < 17592186044416) : nat_number_own.f l = some l := by
 unfold nat_number_own.f; rw [if_pos (by simpa using h)]; rfl
theorem answer_eq (v : Nat) : nat_answer.f (ofN v) = some (if v < big then (ofN v, 0) else ([], 3)) := by
 unfold nat_answer.f; rw [great_ofN]; simp only [bind_s]
 by_cases h : v < big
 ·have := (ofN_big v).2 h
  rw [own_eq _ (by omega)]; simp [h]
 simp [h]
theorem a64s (x y c : Int) : add64s x y c = (((x.toNat + y.toNat + c.toNat) % 18446744073709551616 : Nat) : Int) := rfl
theorem a64s_lo (x y c : Int) : 0 ≤ add64s x y c := by rw [a64s]; omega
theorem a64s_hi (x y c : Int) : add64s x y c < 18446744073709551616 := by rw [a64s]; omega
theorem a64c (x y c : Int) : add64c x y c = (((x.toNat + y.toNat + c.toNat) / 18446744073709551616 : Nat) : Int) := rfl
theorem a64c_bd {x y : Int} {c : Nat} (hx : x < 18446744073709551616) (hy : y < 18446744073709551616) (hc : c ≤ 1) : ∃ d : Nat, d ≤ 1 ∧ add64c x y c = d := ⟨_, by simp only [Int.toNat_natCast]; omega, rfl⟩
theorem pow_step {P v w s c d x y : Nat} (h : s + 18446744073709551616 * d = x + y + c) : v + P * c + 0 + (P * x + P * y) = v + P * s + P * 18446744073709551616 * d := by
 have : P * (s + 18446744073709551616 * d) = P * (x + y + c) := by rw [h]
 rw [Nat.mul_add, Nat.mul_add, Nat.mul_add, ← Nat.mul_assoc] at this
 omega
theorem add_step {P va vb vo c x y s d : Nat} (h : s + 18446744073709551616 * d = x + y + c) (e : vo + P * c = va + vb) : vo + P * s + P * 18446744073709551616 * d = va + P * x + (vb + P * y) := by
 have := pow_step (P := P) (v := vo) (w := 0) h
 omega
end Go.Proofs.YtnjfckadjklmfaaDoor.Nf
namespace Go.Proofs.YtnjfckadjklmfaaDoor.Nf
open Go.RowKit Go.Proofs.YtnjfckadjklmfaaDoor.PAll Go.Proofs.YtnjfckadjklmfaaDoorW.PrintWords Go.Proofs.YtnjfckadjklmfaaDoorW.PrintLast Go.Proofs.YtnjfckadjklmfaaDoorW.PrintMore Go.Proofs.YtnjfckadjklmfaaDoor.Nm
set_option linter.unusedVariables false
set_option linter.unusedSimpArgs false
theorem ofN_take {l : List Int} (hw : Ws l) {j : Nat} (hj : j < l.length) (h : l.getD j 0 ≠ 0) : l.take (j + 1) = ofN (val (l.take (j + 1))) := by
 refine eq_ofN (ws_take hw _) ?_
 rw [List.take_succ_eq_append_getElem hj]
 refine nrm_of_last ?_
 rwa [List.getD_eq_getElem?_getD, List.getElem?_eq_getElem hj] at h
theorem val_take_lt {l : List Int} (h : Ws l) (j : Nat) : val (l.take j) < 18446744073709551616 ^ j := by
 have a := val_lt (ws_take h j)
 refine Nat.lt_of_lt_of_le a (Nat.pow_le_pow_right (by decide) ?_)
 rw [List.length_take]; omega
theorem wrap_succ {j : Nat} (h : j < 4611686018427387904) : wrap64 ((j : Int) + 1) = ((j + 1 : Nat) : Int) := by rw [wrapS (by omega) (by omega)]; omega
theorem s64s (x y c : Int) : sub64s x y c = (((x.toNat + 18446744073709551616 - y.toNat - c.toNat) % 18446744073709551616 : Nat) : Int) := rfl
theorem s64s_lo (x y c : Int) : 0 ≤ sub64s x y c := by rw [s64s]; omega
theorem s64s_hi (x y c : Int) : sub64s x y c < 18446744073709551616 := by rw [s64s]; omega
theorem sub_nat1 {m x y c : Nat} (hx : x < m) (hy : y < m) (hc : c ≤ 1) (h : x < y + c) : x + m * 1 = (x + m - y - c) % m + y + c := by
 rw [Nat.mod_eq_of_lt (by omega)]; omega
theorem sub_nat0 {m x y c : Nat} (hx : x < m) (hy : y < m) (hc : c ≤ 1) (h : ¬ x < y + c) : x + m * 0 = (x + m - y - c) % m + y + c := by
 have : x + m - y - c = (x - y - c) + m := by omega
 rw [this, Nat.add_mod_right, Nat.mod_eq_of_lt (by omega)]; omega
theorem s64s_nat (x y : Int) (c : Nat) : (sub64s x y c).toNat = (x.toNat + 18446744073709551616 - y.toNat - c) % 18446744073709551616 := by unfold sub64s; rw [Int.toNat_natCast, Int.toNat_natCast]
theorem s64c_nat (x y : Int) (c : Nat) : sub64c x y c = if x.toNat < y.toNat + c then 1 else 0 := by unfold sub64c; rw [Int.toNat_natCast]
theorem sub_word {x y : Int} {c : Nat} (x0 : 0 ≤ x) (x1 : x < 18446744073709551616) (y0 : 0 ≤ y) (y1 : y < 18446744073709551616) (hc : c ≤ 1) :
  ∃ d : Nat, d ≤ 1 ∧ sub64c x y c = d ∧ x.toNat + 18446744073709551616 * d = (sub64s x y c).toNat + y.toNat + c := by
 have hx : x.toNat < 18446744073709551616 := by omega
 have hy : y.toNat < 18446744073709551616 := by omega
 rw [s64s_nat, s64c_nat]
 by_cases h : x.toNat < y.toNat + c
 ·exact ⟨1, Nat.le_refl 1, if_pos h, sub_nat1 hx hy hc h⟩
 exact ⟨0, Nat.zero_le 1, if_neg h, sub_nat0 hx hy hc h⟩
theorem ofN_len_le {a b : Nat} (h : b ≤ a) : (ofN b).length ≤ (ofN a).length := by
 rcases Nat.lt_or_ge (ofN a).length (ofN b).length with g | g
 ·have := cmpI_len g; omega
 exact g
theorem ofN_len_succ (n m : Nat) : (ofN n).length ≤ m + 1 ↔ n < 18446744073709551616 ^ m * 18446744073709551616 := by rw [ofN_len, Nat.pow_succ]
theorem big_add_aux {p m a b : Nat} (hp : p = 18446744073709551616 ^ m) (ha : a < p) (hb : b < p) : (ofN (a + b)).length ≤ m + 1 := by
 refine (ofN_len_succ (a + b) m).2 ?_
 rw [← hp]; omega
theorem len_big {a : Nat} (ha : a < big) : (ofN a).length ≤ 1024 := (ofN_big a).2 ha
end Go.Proofs.YtnjfckadjklmfaaDoor.Nf
namespace Go.Proofs.YtnjfckadjklmfaaDoor.Nf
open Go.RowKit Go.Proofs.YtnjfckadjklmfaaDoor.PAll Go.Proofs.YtnjfckadjklmfaaDoorW.PrintWords Go.Proofs.YtnjfckadjklmfaaDoorW.PrintLast Go.Proofs.YtnjfckadjklmfaaDoorW.PrintMore Go.Proofs.YtnjfckadjklmfaaDoor.Nm
set_option linter.unusedVariables false
set_option linter.unusedSimpArgs false
theorem toNat_pow2 (s : Nat) : ((2 : Int) ^ s) = ((2 ^ s : Nat) : Int) := by simp
theorem shl_eq (w s : Nat) (hs : s ≤ 64) : shl .u64 (w : Int) (s : Int) = ((w * 2 ^ s % 18446744073709551616 : Nat) : Int) := by
 unfold shl
 rw [Int.toNat_natCast, Nat.min_eq_left (show s ≤ IntKind.u64.bits from hs), IntKind.wrap_u64, toNat_pow2, ← Int.natCast_mul]; rfl
theorem shr_eq (w s : Nat) (hs : s ≤ 64) : shr .u64 (w : Int) (s : Int) = ((w / 2 ^ s : Nat) : Int) := by
 unfold shr
 rw [Int.toNat_natCast, Nat.min_eq_left (show s ≤ IntKind.u64.bits from hs), toNat_pow2]
 rfl
theorem pow_split {s : Nat} (hs : s ≤ 64) : 2 ^ s * 2 ^ (64 - s) = 18446744073709551616 := by
 rw [← Nat.pow_add, Nat.add_sub_cancel' hs]
theorem or_add (a s c : Nat) (hc : c < 2 ^ s) : 2 ^ s * a ||| c = 2 ^ s * a + c := (Nat.two_pow_add_eq_or_of_lt hc a).symm
theorem shl_parts {w s : Nat} (hs : s ≤ 64) : w * 2 ^ s % 18446744073709551616 = 2 ^ s * (w % 2 ^ (64 - s)) ∧ w * 2 ^ s = w * 2 ^ s % 18446744073709551616 + 18446744073709551616 * (w / 2 ^ (64 - s)) := by
 have e : w * 2 ^ s % 18446744073709551616 = 2 ^ s * (w % 2 ^ (64 - s)) := by
  rw [← pow_split hs, Nat.mul_comm w, Nat.mul_mod_mul_left]
 refine ⟨e, ?_⟩
 have := Nat.div_add_mod w (2 ^ (64 - s))
 rw [e, ← pow_split hs, Nat.mul_assoc, ← Nat.mul_add, Nat.add_comm, this, Nat.mul_comm]
theorem or_shl' {w s c : Nat} (hs : s ≤ 64) (hc : c < 2 ^ s) : Go.bits .or .u64 (c : Int) (shl .u64 (w : Int) (s : Int)) = ((w * 2 ^ s % 18446744073709551616 + c : Nat) : Int) := by
 have h2 : 2 ^ s ≤ 18446744073709551616 := by rw [← pow_split hs]; exact Nat.le_mul_of_pos_right _ (Nat.pow_pos (by decide))
 rw [shl_eq w s hs, u64_or_nat _ _ (by omega) (Nat.mod_lt _ (by decide)), Nat.or_comm, (shl_parts hs).1, or_add _ _ _ hc]
theorem or_shl_lt {w s c : Nat} (hs : s ≤ 64) (hc : c < 2 ^ s) : w * 2 ^ s % 18446744073709551616 + c < 18446744073709551616 := by
 rw [(shl_parts hs).1]
 have : w % 2 ^ (64 - s) < 2 ^ (64 - s) := Nat.mod_lt _ (Nat.pow_pos (by decide))
 have := Nat.mul_le_mul_left (2 ^ s) this
 rw [pow_split hs, Nat.mul_succ] at this
 omega
theorem shr_up_lt {w s : Nat} (hs : s ≤ 64) (hw : w < 18446744073709551616) : w / 2 ^ (64 - s) < 2 ^ s := by
 rw [Nat.div_lt_iff_lt_mul (Nat.pow_pos (by decide)), pow_split hs]; exact hw
theorem pow_parts (n : Nat) : 2 ^ n = 18446744073709551616 ^ (n / 64) * 2 ^ (n % 64) := by
 have e : 2 ^ n = 2 ^ (64 * (n / 64) + n % 64) := by rw [Nat.div_add_mod]
 rw [e, Nat.pow_add, Nat.pow_mul]
theorem shl_step {P Q vo c V S w lo d B : Nat} (e : w * S = lo + B * d) (hv : vo + P * Q * c = P * (V * S)) : vo + P * Q * (lo + c) + P * Q * B * d = P * ((V + Q * w) * S) := by
 rw [Nat.add_mul, Nat.mul_add P, ← hv, Nat.mul_assoc Q w S, e, ← Nat.mul_assoc P Q (lo + B * d), Nat.mul_add, Nat.mul_add, Nat.mul_assoc (P * Q) B d]
 omega
theorem wrap_add {a b : Nat} (h : a + b < 4611686018427387904) : wrap64 ((a : Int) + (b : Int)) = ((b + a : Nat) : Int) := by rw [wrapS (by omega) (by omega)]; omega
theorem asNat {x : Int} (h : 0 ≤ x) : x = ((x.toNat : Nat) : Int) := by omega
theorem val_set2 (o : List Int) (i x y : Nat) (hi : i + 1 < o.length) : val (((o.set i (x : Int)).set (i + 1) (y : Int)).take (i + 2)) = val (o.take i) + 18446744073709551616 ^ i * x + 18446744073709551616 ^ (i + 1) * y := by
 rw [val_set_take _ _ _ (by rw [List.length_set]; exact hi), val_set_take _ _ _ (by omega), Int.toNat_natCast, Int.toNat_natCast]
theorem shl_loop (a : List Int) (ha : Ws a) (q s : Nat) (hs : s < 64) (na : a.length + q < 35184372088000) (r : Nat) : ∀ (j k : Nat) (o : List Int) (c : Nat), a.length - j = r → j ≤ a.length → r + a.length + q + 3 < k → o.length = a.length + q + 1 → Ws o → c < 2 ^ s → o.getD (q + j) 0 = c → (∀ i, q + j < i → o.getD i 0 = 0) →
  val (o.take (q + j)) + 18446744073709551616 ^ (q + j) * c = 18446744073709551616 ^ q * (val (a.take j) * 2 ^ s) →
  nat_number_shl.l0 k q s o a a.length j = some (ofN (18446744073709551616 ^ q * (val a * 2 ^ s))) := by
 have h2 : 2 ^ s ≤ 18446744073709551616 := by rw [← pow_split (show s ≤ 64 by omega)]; exact Nat.le_mul_of_pos_right _ (Nat.pow_pos (by decide))
 induction r with
 | zero =>
  intro j k o c hr hj hk ho hw hc hg hz hv
  obtain ⟨k, rfl⟩ : ∃ m, k = m + 1 := ⟨k - 1, by omega⟩
  obtain rfl : j = a.length := by omega
  simp only [nat_number_shl.l0]
  rw [if_neg (by omega), norm_eq _ _ k rfl hw (by omega) (by omega), bind_s]
  have e := val_take_succ o (q + a.length) (by omega)
  rw [hg, Int.toNat_natCast, hv, val_take_ge _ _ (by omega), val_take_ge _ _ (Nat.le_refl _)] at e
  rw [e]
 | succ r ih =>
  intro j k o c hr hj hk ho hw hc hg hz
  obtain ⟨k, rfl⟩ : ∃ m, k = m + 1 := ⟨k - 1, by omega⟩
  have i1 : a.length - (j + 1) = r := by omega
  have i2 : j + 1 ≤ a.length := by omega
  have i3 : r + a.length + q + 3 < k := by omega
  have i4 : q + j + 1 < o.length := by omega
  have b1 : j + q < 4611686018427387904 := by omega
  have b2 : q + j < 4611686018427387904 := by omega
  have b3 : j < 4611686018427387904 := by omega
  have g1 : (j : Int) < (a.length : Int) := by omega
  have g2 : ((q + j : Nat) : Int) < (o.length : Int) := by omega
  have g3 : ((q + j + 1 : Nat) : Int) < (o.length : Int) := by omega
  have hs' : s ≤ 64 := by omega
  have l0 : 2 ^ s ≤ 18446744073709551616 := h2
  have hz' : ∀ i, q + (j + 1) < i → q + j < i ∧ q + j + 1 ≠ i ∧ q + j ≠ i := fun i hi => by omega
  have hq1 : q + j < q + j + 1 := by omega
  intro hv
  simp only [nat_number_shl.l0]
  rw [if_pos g1, if_pos (Int.natCast_nonneg _), if_pos g1, wrap_add b1, wrap_succ b2, if_pos (Int.natCast_nonneg _), if_pos g2, if_pos (Int.natCast_nonneg _), wrap_succ b3]
  simp only [rd_nat, Int.toNat_natCast]
  obtain ⟨p0, p1⟩ := ws_get ha j
  have ew := asNat p0
  generalize hwn : (a.getD j 0).toNat = w at ew
  have w1 : w < 18446744073709551616 := Int.ofNat_lt.1 (ew ▸ p1)
  rw [ew, hg, or_shl' hs' hc, bind_s]
  have l1 := or_shl_lt (w := w) hs' hc
  have e := (shl_parts (w := w) (s := s) hs').2
  have key : ∀ d : Nat, d = w / 2 ^ (64 - s) → nat_number_shl.l0 k q s ((o.set (q + j) ((w * 2 ^ s % 18446744073709551616 + c : Nat) : Int)).set (q + j + 1) (d : Int)) a a.length ((j + 1 : Nat) : Int) = some (ofN (18446744073709551616 ^ q * (val a * 2 ^ s))) := by
   intro d hd
   have l2 : d < 2 ^ s := by rw [hd]; exact shr_up_lt hs' w1
   refine ih (j + 1) k _ d i1 i2 i3 (by rw [List.length_set, List.length_set]; exact ho) (ws_set (ws_set hw _ (Int.natCast_nonneg _) (Int.ofNat_lt.2 l1)) _ (Int.natCast_nonneg _) (Int.ofNat_lt.2 (Nat.lt_of_lt_of_le l2 h2))) l2 ?_ ?_ ?_
   ·exact Nm.getD_set_eq _ _ _ (by rw [List.length_set]; exact i4)
   ·intro i hi
    obtain ⟨z1, z2, z3⟩ := hz' i hi
    rw [Nm.getD_set_ne _ _ _ _ z2, Nm.getD_set_ne _ _ _ _ z3]
    exact hz i z1
   rw [← hd] at e
   have := val_take_succ ((o.set (q + j) ((w * 2 ^ s % 18446744073709551616 + c : Nat) : Int)).set (q + j + 1) (d : Int)) (q + j + 1) (by rw [List.length_set, List.length_set]; exact i4)
   rw [val_set2 _ _ _ _ i4, Nm.getD_set_eq _ _ _ (by rw [List.length_set]; exact i4), Int.toNat_natCast] at this
   have e3 : q + (j + 1) = q + j + 1 := rfl
   rw [e3]
   rw [← this, take_succ_getD a, hwn, Nat.pow_succ, Nat.pow_add]
   rw [Nat.pow_add] at hv
   exact shl_step e hv
  by_cases h : (s : Int) > 0
  ·have hs64 : 64 - s ≤ 64 := by omega
   have e64 : wrap64 (64 - (s : Int)) = ((64 - s : Nat) : Int) := by rw [wrapS (by omega) (by omega)]; omega
   rw [if_pos h, e64, if_pos (Int.natCast_nonneg _), if_pos (Int.natCast_nonneg _), if_pos g3, shr_eq _ _ hs64]
   exact key _ rfl
  have : s = 0 := by omega
  rw [if_neg h]
  have k0 := key 0 (by subst this; rw [Nat.div_eq_of_lt (show w < 2 ^ (64 - 0) from w1)])
  have same : ((o.set (q + j) ((w * 2 ^ s % 18446744073709551616 + c : Nat) : Int)).set (q + j + 1) ((0 : Nat) : Int)) = o.set (q + j) ((w * 2 ^ s % 18446744073709551616 + c : Nat) : Int) := by
   have h0 := hz (q + j + 1) hq1
   refine List.ext_getElem (by simp) fun i g1 g2 => ?_
   by_cases hi : i = q + j + 1
   ·subst hi
    rw [List.getElem_set_self, List.getElem_set_ne (by omega)]
    rw [List.getD_eq_getElem?_getD, List.getElem?_eq_getElem i4] at h0
    exact h0.symm
   rw [List.getElem_set_ne (by omega)]
  rw [same] at k0
  exact k0
end Go.Proofs.YtnjfckadjklmfaaDoor.Nf
namespace Go.Proofs.YtnjfckadjklmfaaDoor.Nf
open Go.RowKit Go.Proofs.YtnjfckadjklmfaaDoor.PAll Go.Proofs.YtnjfckadjklmfaaDoorW.PrintWords Go.Proofs.YtnjfckadjklmfaaDoorW.PrintLast Go.Proofs.YtnjfckadjklmfaaDoorW.PrintMore Go.Proofs.YtnjfckadjklmfaaDoor.Nm
set_option linter.unusedVariables false
set_option linter.unusedSimpArgs false
theorem or_shr {w w' s : Nat} (h0 : 0 < s) (hs : s < 64) (hw : w < 18446744073709551616) : Go.bits .or .u64 ((w / 2 ^ s : Nat) : Int) (shl .u64 (w' : Int) ((64 - s : Nat) : Int)) = ((w / 2 ^ s + 2 ^ (64 - s) * (w' % 2 ^ s) : Nat) : Int) := by
 have hc : w / 2 ^ s < 2 ^ (64 - s) := by
  rw [Nat.div_lt_iff_lt_mul (Nat.pow_pos (by decide)), Nat.mul_comm, pow_split (show s ≤ 64 by omega)]; exact hw
 rw [or_shl' (show 64 - s ≤ 64 by omega) hc, (shl_parts (w := w') (s := 64 - s) (by omega)).1]
 have e : 64 - (64 - s) = s := by omega
 rw [e, Nat.add_comm]
theorem shr_word_lt {w c s : Nat} (hs : s ≤ 64) (hw : w < 18446744073709551616) : w / 2 ^ s + 2 ^ (64 - s) * (c % 2 ^ s) < 18446744073709551616 := by
 have h1 : w / 2 ^ s < 2 ^ (64 - s) := by
  rw [Nat.div_lt_iff_lt_mul (Nat.pow_pos (by decide)), Nat.mul_comm, pow_split hs]; exact hw
 have h2 : c % 2 ^ s < 2 ^ s := Nat.mod_lt _ (Nat.pow_pos (by decide))
 have h3 := Nat.mul_le_mul_left (2 ^ (64 - s)) h2
 rw [Nat.mul_succ, Nat.mul_comm _ (2 ^ s), pow_split hs] at h3
 omega
theorem low_mod {w c s : Nat} (hs : s ≤ 64) : (w + 18446744073709551616 * c) % 2 ^ s = w % 2 ^ s := by
 rw [← pow_split hs, Nat.mul_assoc, Nat.add_mul_mod_self_left]
theorem val_mod (l : List Int) {s : Nat} (hs : s ≤ 64) : val l % 2 ^ s = (l.getD 0 0).toNat % 2 ^ s := by
 cases l with
 | nil => simp [val]
 | cons w l => rw [val_cons, low_mod hs]; rfl
theorem getD_drop (l : List Int) (q j : Nat) : (l.drop q).getD j 0 = l.getD (j + q) 0 := by
 rw [List.getD_eq_getElem?_getD, List.getD_eq_getElem?_getD, List.getElem?_drop, Nat.add_comm]
theorem shr_parts {a : List Int} (ha : Ws a) {q s : Nat} (hs : s < 64) (hq : q ≤ a.length) :
  val a / 2 ^ (64 * q + s) = val (a.drop q) / 2 ^ s ∧ (val a % 2 ^ (64 * q + s) ≠ 0 ↔ val (a.take q) ≠ 0 ∨ (a.getD q 0).toNat % 2 ^ s ≠ 0) := by
 have e : 2 ^ (64 * q + s) = 18446744073709551616 ^ q * 2 ^ s := by rw [Nat.pow_add, Nat.pow_mul]
 have ht := val_take_lt ha q
 obtain ⟨h1, h2⟩ := shr_all (S := 2 ^ s) ht (val_take_drop a q hq)
 rw [e, h1, h2, val_mod _ (by omega), getD_drop, Nat.zero_add]
 refine ⟨rfl, ?_⟩
 have hp := pow_pos q
 constructor
 ·intro h
  by_cases g : val (a.take q) = 0
  ·right; intro z; rw [g, z] at h; exact h rfl
  exact .inl g
 rintro (h | h)
 ·omega
 have : 0 < 18446744073709551616 ^ q * ((a.getD q 0).toNat % 2 ^ s) := Nat.mul_pos hp (by omega)
 omega
theorem lost_and {w s : Nat} (hs : s < 64) (hw : w < 18446744073709551616) : (Go.bits .and .u64 (w : Int) (IntKind.u64.wrap ((shl .u64 1 (s : Int)) - 1)) != 0) = decide (w % 2 ^ s ≠ 0) := by
 have h1 : shl .u64 1 (s : Int) = ((2 ^ s : Nat) : Int) := by
  have := shl_eq 1 s (by omega)
  rw [Nat.one_mul, Nat.mod_eq_of_lt (Nat.pow_lt_pow_right (by decide) hs : 2 ^ s < 2 ^ 64)] at this
  exact this
 have h2 : 2 ^ s < 18446744073709551616 := (Nat.pow_lt_pow_right (by decide) hs : 2 ^ s < 2 ^ 64)
 have h3 : 0 < 2 ^ s := Nat.pow_pos (by decide)
 have h4 : IntKind.u64.wrap (((2 ^ s : Nat) : Int) - 1) = ((2 ^ s - 1 : Nat) : Int) := by
  generalize 2 ^ s = p at *
  rw [IntKind.wrap_u64]; omega
 rw [h1, h4, u64_and_nat _ _ hw (by omega), Nat.and_two_pow_sub_one_eq_mod]
 rw [Bool.eq_iff_iff]; simp only [bne_iff_ne, decide_eq_true_eq]
 generalize w % 2 ^ s = z; omega
theorem nshr_l1 (a : List Int) (ha : Ws a) (q s : Nat) (hs : s < 64) (lost : Bool) (hq : q < a.length) (na : a.length < 1152921504606846976) (r : Nat) : ∀ (j k : Nat) (o : List Int), a.length - q - j = r → j ≤ a.length - q → r + a.length + 3 < k → o.length = a.length - q → Ws o →
  2 ^ s * val (o.take j) + (a.getD q 0).toNat % 2 ^ s = val ((a.drop q).take j) + 18446744073709551616 ^ j * ((a.getD (j + q) 0).toNat % 2 ^ s) →
  nat_number_shr.l1 k a q s lost o ((a.length - q : Nat) : Int) j = some (ofN (val (a.drop q) / 2 ^ s), lost) := by
 induction r with
 | zero =>
  intro j k o hr hj hk ho hw hv
  obtain ⟨k, rfl⟩ : ∃ m, k = m + 1 := ⟨k - 1, by omega⟩
  obtain rfl : j = a.length - q := by omega
  simp only [nat_number_shr.l1]
  rw [if_neg (by omega), norm_eq _ _ k rfl hw (by omega) (by omega), bind_s]
  rw [getD_ge a (a.length - q + q) (by omega), val_take_ge o _ (by omega), val_take_ge (a.drop q) _ (by rw [List.length_drop]; omega)] at hv
  have h0 : (a.getD q 0).toNat % 2 ^ s < 2 ^ s := Nat.mod_lt _ (Nat.pow_pos (by decide))
  have := (shr_end h0 (show 2 ^ s * val o + (a.getD q 0).toNat % 2 ^ s = val (a.drop q) by rw [hv]; simp)).1
  rw [this]
 | succ r ih =>
  intro j k o hr hj hk ho hw hv
  obtain ⟨k, rfl⟩ : ∃ m, k = m + 1 := ⟨k - 1, by omega⟩
  have i1 : a.length - q - (j + 1) = r := by omega
  have i2 : j + 1 ≤ a.length - q := by omega
  have i3 : r + a.length + 3 < k := by omega
  have i4 : j < o.length := by omega
  have g1 : (j : Int) < ((a.length - q : Nat) : Int) := by omega
  have g2 : ((q + j : Nat) : Int) < (a.length : Int) := by omega
  have g3 : (j : Int) < (o.length : Int) := by omega
  have g4 : ((q + j + 1 : Nat) : Int) < (a.length : Int) ↔ q + j + 1 < a.length := by omega
  have b1 : j + q < 4611686018427387904 := by omega
  have b2 : q + j < 4611686018427387904 := by omega
  have b3 : j < 4611686018427387904 := by omega
  have hs' : s ≤ 64 := by omega
  have hs6 : 64 - s ≤ 64 := by omega
  have e1 : j + 1 + q = q + j + 1 := by omega
  have e2 : j + q = q + j := by omega
  have hsp : (s : Int) > 0 ↔ 0 < s := by omega
  have hs1 : -9223372036854775808 ≤ (64 : Int) - (s : Int) := by omega
  have hs2 : (64 : Int) - (s : Int) < 9223372036854775808 := by omega
  have hs3 : (64 : Int) - (s : Int) = ((64 - s : Nat) : Int) := by omega
  have hs0 : ¬ 0 < s → s = 0 := by omega
  have hge : ¬ q + j + 1 < a.length → a.length ≤ q + j + 1 := by omega
  simp only [nat_number_shr.l1]
  rw [if_pos g1, wrap_add b1, if_pos (Int.natCast_nonneg _), if_pos g2, if_pos (Int.natCast_nonneg _), if_pos (Int.natCast_nonneg _), if_pos g3, wrap_succ b2, wrap_succ b3, bind_s]
  simp only [rd_nat, Int.toNat_natCast]
  obtain ⟨p0, p1⟩ := ws_get ha (q + j)
  obtain ⟨p2, p3⟩ := ws_get ha (q + j + 1)
  have ew := asNat p0
  have ew' := asNat p2
  generalize hwn : (a.getD (q + j) 0).toNat = w at ew
  generalize hwn' : (a.getD (q + j + 1) 0).toNat = w' at ew'
  have w1 : w < 18446744073709551616 := Int.ofNat_lt.1 (ew ▸ p1)
  rw [ew, shr_eq _ _ hs', Nm.getD_set_eq _ _ _ i4, List.set_set]
  have key : ∀ v : Nat, v = w / 2 ^ s + 2 ^ (64 - s) * (w' % 2 ^ s) → nat_number_shr.l1 k a q s lost (o.set j (v : Int)) ((a.length - q : Nat) : Int) ((j + 1 : Nat) : Int) = some (ofN (val (a.drop q) / 2 ^ s), lost) := by
   intro v hv2
   have l1 : v < 18446744073709551616 := by rw [hv2]; exact shr_word_lt hs' w1
   refine ih (j + 1) k _ i1 i2 i3 (by rw [List.length_set]; exact ho) (ws_set hw _ (Int.natCast_nonneg _) (Int.ofNat_lt.2 l1)) ?_
   rw [val_set_take o j _ i4, take_succ_getD, getD_drop, e1, e2, hwn', hwn, Int.toNat_natCast, Nat.pow_succ]
   rw [e2, hwn] at hv
   exact shr_step (pow_split hs') hv2 hv
  by_cases h : 0 < s
  ·rw [if_pos (hsp.2 h)]
   by_cases g : q + j + 1 < a.length
   ·rw [if_pos (g4.2 g), if_pos (Int.natCast_nonneg _), wrapS hs1 hs2, hs3, if_pos (Int.natCast_nonneg _), ew', or_shr h hs w1]
    exact key _ rfl
   rw [if_neg (fun x => g (g4.1 x))]
   refine key _ ?_
   rw [getD_ge a _ (hge g)] at hwn'
   have : w' = 0 := hwn'.symm
   rw [this]; simp
  have h00 := hs0 h
  rw [if_neg (fun x => h (hsp.1 x))]
  refine key _ ?_
  rw [h00]; simp [Nat.mod_one]
theorem bne_toNat {x : Int} (h : 0 ≤ x) : (x != 0) = decide (x.toNat ≠ 0) := by rw [Bool.eq_iff_iff]; simp; omega
theorem or_step (lost : Bool) (a b : Nat) : (lost || decide (a + 18446744073709551616 * b ≠ 0)) = ((lost || decide (a ≠ 0)) || decide (b ≠ 0)) := by
 rw [Bool.eq_iff_iff]
 cases lost <;> simp
 omega
theorem nshr_l0 (a : List Int) (ha : Ws a) (q s : Nat) (hs : s < 64) (hq : q < a.length) (na : a.length < 35184372088832) (r : Nat) : ∀ (j k : Nat) (lost : Bool), q - j = r → j ≤ q → r + 2 * a.length + 5 < k →
  nat_number_shr.l0 k a q s lost (a.take q) q j = some (ofN (val (a.drop q) / 2 ^ s), lost || decide (val ((a.take q).drop j) ≠ 0)) := by
 have hl : (a.take q).length = q := by rw [List.length_take]; omega
 induction r with
 | zero =>
  intro j k lost hr hj hk
  obtain ⟨k, rfl⟩ : ∃ m, k = m + 1 := ⟨k - 1, by omega⟩
  obtain rfl : j = q := by omega
  have e : wrap64 ((a.length : Int) - (j : Int)) = ((a.length - j : Nat) : Int) := by rw [wrapS (by omega) (by omega)]; omega
  have hv : val ((a.take j).drop j) = 0 := by
   rw [List.drop_eq_nil_of_le (by omega)]; rfl
  have := nshr_l1 a ha j s hs lost hq (by omega) _ 0 k (List.replicate (a.length - j) 0) rfl (by omega) (by omega) (by simp) (ws_replicate _) (by simp [val])
  simp only [nat_number_shr.l0]
  rw [e, if_neg (by omega), if_pos (by omega), if_pos (by rw [Int.toNat_natCast]; omega), bind_s, Int.toNat_natCast, List.length_replicate, hv]
  simpa using this
 | succ r ih =>
  intro j k lost hr hj hk
  obtain ⟨k, rfl⟩ : ∃ m, k = m + 1 := ⟨k - 1, by omega⟩
  have b3 : j < 4611686018427387904 := by omega
  have hd := val_drop (a.take q) j (by omega)
  obtain ⟨p0, p1⟩ := ws_get (ws_take ha q) j
  have i1 : q - (j + 1) = r := by omega
  have i2 : j + 1 ≤ q := by omega
  have i3 : r + 2 * a.length + 5 < k := by omega
  simp only [nat_number_shr.l0]
  rw [if_pos (by omega), if_pos (by omega), if_pos (by omega), wrap_succ b3, rd_nat, ih _ k _ i1 i2 i3, ih _ k _ i1 i2 i3, hd, or_step, bne_toNat p0]
  cases lost <;> simp
theorem nshr_eq (a : List Int) (n k : Nat) (ha : Ws a) (hn : n < 9223372036854775808) (na : a.length < 35184372088832) (hz : val a = 0 → a = []) (hk : 3 * a.length + 10 < k) :
  nat_number_shr.f k a n = some (ofN (val a / 2 ^ n), decide (val a % 2 ^ n ≠ 0)) := by
 unfold nat_number_shr.f
 have e1 : wrap64 (Int.tdiv (n : Int) 64) = ((n / 64 : Nat) : Int) := by
  rw [Int.tdiv_eq_ediv_of_nonneg (by omega), wrapS (by omega) (by omega)]; omega
 have e2 : Int.tmod (n : Int) 64 = ((n % 64 : Nat) : Int) := by
  rw [Int.tmod_eq_emod_of_nonneg (by omega)]; omega
 have en : n = 64 * (n / 64) + n % 64 := by omega
 have hs : n % 64 < 64 := by omega
 rw [e1, e2]
 generalize n / 64 = q at *
 generalize n % 64 = s at *
 by_cases h : a.length ≤ q
 ·rw [if_pos (by omega)]
  have h1 : val a < 2 ^ n := by
   refine Nat.lt_of_lt_of_le (val_lt ha) ?_
   have e : 18446744073709551616 ^ a.length = 2 ^ (64 * a.length) := by rw [Nat.pow_mul]
   rw [e]; exact Nat.pow_le_pow_right (by decide) (by omega)
  rw [Nat.div_eq_of_lt h1, Nat.mod_eq_of_lt h1, ofN_zero]
  congr 2
  rw [decide_eq_decide]
  constructor
  ·intro g z; rw [hz z] at g; simp at g
  intro g
  have : a ≠ [] := fun z => g (by rw [z]; rfl)
  have := List.length_pos_iff.2 this
  omega
 have c1 : ¬ ((q : Int) ≥ (a.length : Int)) := by omega
 have c2 : (q : Int) < (a.length : Int) := by omega
 have c3 : (q : Int) ≤ (a.length : Int) := by omega
 have c4 : max (q : Int) 0 = (q : Int) := by omega
 have c5 : q < a.length := by omega
 have c6 : q + 2 * a.length + 5 < k := by omega
 rw [if_neg c1, if_pos (Int.natCast_nonneg _), if_pos c2, if_pos (Int.natCast_nonneg _), if_pos c3, c4, rd_nat, Int.toNat_natCast]
 obtain ⟨p0, p1⟩ := ws_get ha q
 have ew := asNat p0
 obtain ⟨h1, h2⟩ := shr_parts ha hs (Nat.le_of_lt c5)
 generalize hwn : (a.getD q 0).toNat = w at *
 have w1 : w < 18446744073709551616 := Int.ofNat_lt.1 (ew ▸ p1)
 rw [ew, lost_and hs w1]
 have := nshr_l0 a ha q s hs c5 na _ 0 k (decide (w % 2 ^ s ≠ 0)) rfl (Nat.zero_le _) c6
 rw [List.drop_zero] at this
 rw [en, h1]
 refine this.trans ?_
 congr 2
 rw [Bool.eq_iff_iff, Bool.or_eq_true, decide_eq_true_eq, decide_eq_true_eq, decide_eq_true_eq, h2, Or.comm]
end Go.Proofs.YtnjfckadjklmfaaDoor.Nf
namespace Go.Proofs.YtnjfckadjklmfaaDoor.Nf
open Go.RowKit Go.Proofs.YtnjfckadjklmfaaDoor.PAll Go.Proofs.YtnjfckadjklmfaaDoorW.PrintWords Go.Proofs.YtnjfckadjklmfaaDoorW.PrintLast Go.Proofs.YtnjfckadjklmfaaDoorW.PrintMore Go.Proofs.YtnjfckadjklmfaaDoor.Nm
set_option linter.unusedVariables false
set_option linter.unusedSimpArgs false
theorem bl_word {w : Nat} (h : w < 18446744073709551616) : bl w ≤ 64 := bl_le_iff.2 h
theorem ofN_last {v : Nat} (h : v ≠ 0) : ∃ m t w : Nat, (ofN v).length = m + 1 ∧ v = t + 18446744073709551616 ^ m * w ∧ t < 18446744073709551616 ^ m ∧ w ≠ 0 ∧ w < 18446744073709551616 ∧ (ofN v).getD m 0 = (w : Int) := by
 have hl : ofN v ≠ [] := fun z => h (ofN_ne.1 z)
 have hp := List.length_pos_iff.2 hl
 obtain ⟨m, hm⟩ : ∃ m, (ofN v).length = m + 1 := ⟨(ofN v).length - 1, by omega⟩
 have hv := val_take_succ (ofN v) m (by omega)
 rw [val_take_ge _ _ (by omega), val_ofN] at hv
 obtain ⟨p0, p1⟩ := ws_get (ws_ofN v) m
 have ht := val_take_lt (ws_ofN v) m
 refine ⟨m, _, ((ofN v).getD m 0).toNat, hm, hv, ht, ?_, by omega, by omega⟩
 intro z
 rw [z, Nat.mul_zero, Nat.add_zero] at hv
 have := (ofN_len v m).2 (by omega)
 omega
theorem len_bl {v : Nat} (h : v ≠ 0) : ∃ m w : Nat, (ofN v).length = m + 1 ∧ bl v = 64 * m + bl w ∧ w ≠ 0 ∧ w < 18446744073709551616 ∧ (ofN v).getD m 0 = (w : Int) := by
 obtain ⟨m, t, w, h1, h2, h3, h4, h5, h6⟩ := ofN_last h
 refine ⟨m, w, h1, ?_, h4, h5, h6⟩
 rw [h2, bl_top h3 h4]
theorem getD_rep (n i : Nat) : (List.replicate n (0 : Int)).getD i 0 = 0 := by
 rw [List.getD_eq_getElem?_getD, List.getElem?_replicate]; split <;> rfl
theorem nshl_eq (a : List Int) (n k : Nat) (ha : Ws a) (hn : n < 4611686018427387904) (h0 : a ≠ []) (na : a.length + n / 64 < 35184372088000) (hk : 2 * a.length + n / 64 + 10 < k) : nat_number_shl.f k a n = some (ofN (val a * 2 ^ n)) := by
 unfold nat_number_shl.f
 have e1 : wrap64 (Int.tdiv (n : Int) 64) = ((n / 64 : Nat) : Int) := by
  rw [Int.tdiv_eq_ediv_of_nonneg (by omega), wrapS (by omega) (by omega)]; omega
 have e2 : Int.tmod (n : Int) 64 = ((n % 64 : Nat) : Int) := by
  rw [Int.tmod_eq_emod_of_nonneg (by omega)]; omega
 have hl := List.length_pos_iff.2 h0
 have e3 : wrap64 ((wrap64 ((a.length : Int) + ((n / 64 : Nat) : Int))) + 1) = ((a.length + n / 64 + 1 : Nat) : Int) := by
  rw [wrapS (x := (a.length : Int) + ((n / 64 : Nat) : Int)) (by omega) (by omega), wrapS (by omega) (by omega)]; omega
 have c1 : ((a.length + n / 64 + 1 : Nat) : Int).toNat ≤ 35184372088832 := by rw [Int.toNat_natCast]; omega
 have c2 : ¬ ((a.length : Int) = 0) := by omega
 have := shl_loop a ha (n / 64) (n % 64) (by omega) na _ 0 k (List.replicate (a.length + n / 64 + 1) 0) 0 rfl (by omega) (by omega) (by simp) (ws_replicate _) (Nat.pow_pos (by decide)) (by rw [getD_rep]; rfl) (fun i _ => getD_rep _ _) (by simp [val_replicate, val])
 rw [if_neg c2, e1, e2, e3, if_pos (Int.natCast_nonneg _), if_pos c1, Int.toNat_natCast, pow_parts n, Nat.mul_left_comm]
 exact this
end Go.Proofs.YtnjfckadjklmfaaDoor.Nf
namespace Go.Proofs.YtnjfckadjklmfaaDoor.Nf
open Go.RowKit Go.Proofs.YtnjfckadjklmfaaDoor.PAll Go.Proofs.YtnjfckadjklmfaaDoorW.PrintWords Go.Proofs.YtnjfckadjklmfaaDoorW.PrintLast Go.Proofs.YtnjfckadjklmfaaDoorW.PrintMore Go.Proofs.YtnjfckadjklmfaaDoor.Nm
set_option linter.unusedVariables false
set_option linter.unusedSimpArgs false
def shlS (v : Nat) (n : Int) : List Int × Int := if v < big then (if n < 0 then ([], 2) else if v = 0 then ([], 0) else if bl v + n.toNat ≤ 65536 then (ofN (v * 2 ^ n.toNat), 0) else ([], 3)) else ([], 3)
def shrS (v : Nat) (n : Int) : List Int × Bool × Int := if v < big then (if n < 0 then ([], false, 2) else (ofN (v / 2 ^ n.toNat), decide (v % 2 ^ n.toNat ≠ 0), 0)) else ([], false, 3)
theorem ofN_zero_iff {v : Nat} : (ofN v).length = 0 ↔ v = 0 := by rw [List.length_eq_zero_iff, ofN_ne]
theorem Shl_eq (a : List Int) (n : Int) (k : Nat) (ha : Ws a) (na : a.length < 17592186044000) (hk : 4 * a.length + 10000 < k) : nat_Shl.f k a n = some (shlS (val a) n) := by
 unfold nat_Shl.f shlS
 rw [one_eq a k ha (by omega) (by omega), bind_s]
 by_cases h : val a < big
 ·have hl := len_big h
  simp only [if_pos h]
  rw [if_pos trivial]
  by_cases g : n < 0
  ·rw [if_pos g, if_pos g]
  obtain ⟨m, rfl⟩ : ∃ m : Nat, n = (m : Int) := ⟨n.toNat, by omega⟩
  rw [if_neg g, if_neg g, Int.toNat_natCast]
  by_cases z : val a = 0
  ·have z' := ofN_zero_iff.2 z
   rw [if_pos z, if_pos (by omega)]
  have z' : (ofN (val a)).length ≠ 0 := fun x => z (ofN_zero_iff.1 x)
  have hb := bl_ne z
  rw [if_neg z, if_neg (by omega)]
  by_cases w : bl (val a) + m ≤ 65536
  ·have hm : m / 64 ≤ 1024 := by omega
   have hr := (shl_big z).2 w
   rw [if_pos w, if_neg (by omega), nshl_eq _ _ _ (ws_ofN _) (by omega) (fun x => z' (by rw [x]; rfl)) (by omega) (by omega), bind_s, val_ofN, answer_eq, bind_s, if_pos hr]
  rw [if_neg w]
  by_cases u : (m : Int) > 65536
  ·rw [if_pos u]
  have hm : m / 64 ≤ 1024 := by omega
  have hr : ¬ val a * 2 ^ m < big := fun x => w ((shl_big z).1 x)
  rw [if_neg u, nshl_eq _ _ _ (ws_ofN _) (by omega) (fun x => z' (by rw [x]; rfl)) (by omega) (by omega), bind_s, val_ofN, answer_eq, bind_s, if_neg hr]
 simp only [if_neg h]
 rw [if_neg (by decide)]
theorem Shr_eq (a : List Int) (n : Int) (k : Nat) (ha : Ws a) (hn : n < 9223372036854775808) (na : a.length < 17592186044000) (hk : 4 * a.length + 10000 < k) : nat_Shr.f k a n = some (shrS (val a) n) := by
 unfold nat_Shr.f shrS
 rw [one_eq a k ha (by omega) (by omega), bind_s]
 by_cases h : val a < big
 ·have hl := len_big h
  simp only [if_pos h]
  rw [if_pos trivial]
  by_cases g : n < 0
  ·rw [if_pos g, if_pos g]
  obtain ⟨m, rfl⟩ : ∃ m : Nat, n = (m : Int) := ⟨n.toNat, by omega⟩
  have hd : (ofN (val a / 2 ^ m)).length ≤ 1024 := len_big (Nat.lt_of_le_of_lt (Nat.div_le_self _ _) h)
  rw [if_neg g, if_neg g, Int.toNat_natCast, nshr_eq _ _ _ (ws_ofN _) (by omega) (by omega) (fun x => by rw [val_ofN] at x; exact ofN_ne.2 x) (by omega), bind_s, val_ofN]
  have ho := own_eq (ofN (val a / 2 ^ m)) (by omega)
  dsimp only
  rw [ho, bind_s]
 simp only [if_neg h]
 rw [if_neg (by decide)]
theorem i64_wf {n : Int} (h : (Lit.int .i64 n).wf = true) : -9223372036854775808 ≤ n ∧ n < 9223372036854775808 := by
 simp [Lit.wf, IntKind.min, IntKind.max, IntKind.bits, IntKind.signed] at h
 omega
end Go.Proofs.YtnjfckadjklmfaaDoor.Nf
namespace Go.Proofs.YtnjfckadjklmfaaDoor.Nf
open Go.RowKit Go.Proofs.YtnjfckadjklmfaaDoor.PAll Go.Proofs.YtnjfckadjklmfaaDoorW.PrintWords Go.Proofs.YtnjfckadjklmfaaDoorW.PrintLast Go.Proofs.YtnjfckadjklmfaaDoorW.PrintMore Go.Proofs.YtnjfckadjklmfaaDoor.Nm
set_option linter.unusedVariables false
set_option linter.unusedSimpArgs false
theorem divN (x n : Nat) : (x : Int) / (n : Int) = ((x / n : Nat) : Int) := (Int.natCast_ediv x n).symm
theorem len8_fit : ∀ i : Fin 256, (i.val = 0 ∧ bt (⟨#[0, 1, 2, 2, 3, 3, 3, 3, 4, 4, 4, 4, 4, 4, 4, 4, 5, 5, 5, 5, 5, 5, 5, 5, 5, 5, 5, 5, 5, 5, 5, 5, 6, 6, 6, 6, 6, 6, 6, 6, 6, 6, 6, 6, 6, 6, 6, 6, 6, 6, 6, 6, 6, 6, 6, 6, 6, 6, 6, 6, 6, 6, 6, 6, 7, 7, 7, 7, 7, 7, 7, 7, 7, 7, 7, 7, 7, 7, 7, 7, 7, 7, 7, 7, 7, 7, 7, 7, 7, 7, 7, 7, 7, 7, 7, 7, 7, 7, 7, 7, 7, 7, 7, 7, 7, 7, 7, 7, 7, 7, 7, 7, 7, 7, 7, 7, 7, 7, 7, 7, 7, 7, 7, 7, 7, 7, 7, 7, 8, 8, 8, 8, 8, 8, 8, 8, 8, 8, 8, 8, 8, 8, 8, 8, 8, 8, 8, 8, 8, 8, 8, 8, 8, 8, 8, 8, 8, 8, 8, 8, 8, 8, 8, 8, 8, 8, 8, 8, 8, 8, 8, 8, 8, 8, 8, 8, 8, 8, 8, 8, 8, 8, 8, 8, 8, 8, 8, 8, 8, 8, 8, 8, 8, 8, 8, 8, 8, 8, 8, 8, 8, 8, 8, 8, 8, 8, 8, 8, 8, 8, 8, 8, 8, 8, 8, 8, 8, 8, 8, 8, 8, 8, 8, 8, 8, 8, 8, 8, 8, 8, 8, 8, 8, 8, 8, 8, 8, 8, 8, 8, 8, 8, 8, 8, 8, 8, 8, 8, 8, 8, 8, 8, 8, 8, 8, 8]⟩ : ByteArray) (i.val : Int) = 0) ∨
  ∃ t : Fin 8, 2 ^ t.val ≤ i.val ∧ i.val < 2 ^ (t.val + 1) ∧ bt (⟨#[0, 1, 2, 2, 3, 3, 3, 3, 4, 4, 4, 4, 4, 4, 4, 4, 5, 5, 5, 5, 5, 5, 5, 5, 5, 5, 5, 5, 5, 5, 5, 5, 6, 6, 6, 6, 6, 6, 6, 6, 6, 6, 6, 6, 6, 6, 6, 6, 6, 6, 6, 6, 6, 6, 6, 6, 6, 6, 6, 6, 6, 6, 6, 6, 7, 7, 7, 7, 7, 7, 7, 7, 7, 7, 7, 7, 7, 7, 7, 7, 7, 7, 7, 7, 7, 7, 7, 7, 7, 7, 7, 7, 7, 7, 7, 7, 7, 7, 7, 7, 7, 7, 7, 7, 7, 7, 7, 7, 7, 7, 7, 7, 7, 7, 7, 7, 7, 7, 7, 7, 7, 7, 7, 7, 7, 7, 7, 7, 8, 8, 8, 8, 8, 8, 8, 8, 8, 8, 8, 8, 8, 8, 8, 8, 8, 8, 8, 8, 8, 8, 8, 8, 8, 8, 8, 8, 8, 8, 8, 8, 8, 8, 8, 8, 8, 8, 8, 8, 8, 8, 8, 8, 8, 8, 8, 8, 8, 8, 8, 8, 8, 8, 8, 8, 8, 8, 8, 8, 8, 8, 8, 8, 8, 8, 8, 8, 8, 8, 8, 8, 8, 8, 8, 8, 8, 8, 8, 8, 8, 8, 8, 8, 8, 8, 8, 8, 8, 8, 8, 8, 8, 8, 8, 8, 8, 8, 8, 8, 8, 8, 8, 8, 8, 8, 8, 8, 8, 8, 8, 8, 8, 8, 8, 8, 8, 8, 8, 8, 8, 8, 8, 8, 8, 8, 8, 8]⟩ : ByteArray) (i.val : Int) = ((t.val + 1 : Nat) : Int) := by decide +kernel
def len8 : ByteArray := ⟨#[0, 1, 2, 2, 3, 3, 3, 3, 4, 4, 4, 4, 4, 4, 4, 4, 5, 5, 5, 5, 5, 5, 5, 5, 5, 5, 5, 5, 5, 5, 5, 5, 6, 6, 6, 6, 6, 6, 6, 6, 6, 6, 6, 6, 6, 6, 6, 6, 6, 6, 6, 6, 6, 6, 6, 6, 6, 6, 6, 6, 6, 6, 6, 6, 7, 7, 7, 7, 7, 7, 7, 7, 7, 7, 7, 7, 7, 7, 7, 7, 7, 7, 7, 7, 7, 7, 7, 7, 7, 7, 7, 7, 7, 7, 7, 7, 7, 7, 7, 7, 7, 7, 7, 7, 7, 7, 7, 7, 7, 7, 7, 7, 7, 7, 7, 7, 7, 7, 7, 7, 7, 7, 7, 7, 7, 7, 7, 7, 8, 8, 8, 8, 8, 8, 8, 8, 8, 8, 8, 8, 8, 8, 8, 8, 8, 8, 8, 8, 8, 8, 8, 8, 8, 8, 8, 8, 8, 8, 8, 8, 8, 8, 8, 8, 8, 8, 8, 8, 8, 8, 8, 8, 8, 8, 8, 8, 8, 8, 8, 8, 8, 8, 8, 8, 8, 8, 8, 8, 8, 8, 8, 8, 8, 8, 8, 8, 8, 8, 8, 8, 8, 8, 8, 8, 8, 8, 8, 8, 8, 8, 8, 8, 8, 8, 8, 8, 8, 8, 8, 8, 8, 8, 8, 8, 8, 8, 8, 8, 8, 8, 8, 8, 8, 8, 8, 8, 8, 8, 8, 8, 8, 8, 8, 8, 8, 8, 8, 8, 8, 8, 8, 8, 8, 8, 8, 8]⟩
theorem len8_eq (i : Nat) (h : i < 256) : bt len8 (i : Int) = (bl i : Int) := by
 rcases len8_fit ⟨i, h⟩ with ⟨h1, h2⟩ | ⟨t, h1, h2, h3⟩
 ·have h1' : i = 0 := h1
  subst h1'
  rw [bl_zero]; exact h2
 rw [bl_unique h1 h2]; exact h3
theorem bl_shift {w t : Nat} (h : 2 ^ t ≤ w) : bl w = bl (w / 2 ^ t) + t := by
 have hp : 0 < 2 ^ t := Nat.pow_pos (by decide)
 have hn : w / 2 ^ t ≠ 0 := by
  have := (Nat.le_div_iff_mul_le hp (x := 1) (y := w)).2 (by omega)
  omega
 have a := bl_lt (w / 2 ^ t); have b := bl_le hn; have c := bl_ne hn
 have d := Nat.div_add_mod w (2 ^ t)
 have e := Nat.mod_lt w hp
 have e2 : bl (w / 2 ^ t) + t = (bl (w / 2 ^ t) - 1 + t) + 1 := by omega
 rw [e2]
 apply bl_unique
 ·have : bl (w / 2 ^ t) = (bl (w / 2 ^ t) - 1) + 1 := by omega
  rw [this, Nat.pow_succ] at b
  rw [Nat.pow_add, Nat.mul_comm]
  exact Nat.le_trans (Nat.mul_le_mul_left (2 ^ t) (show 2 ^ (bl (w / 2 ^ t) - 1) ≤ w / 2 ^ t by omega)) (Nat.mul_div_le w (2 ^ t))
 rw [← e2, Nat.pow_add]
 exact (Nat.div_lt_iff_lt_mul hp).1 a
set_option maxRecDepth 100000 in
theorem Len64_j0 (k w m : Nat) (hw : w < 4294967296) (hm : m ≤ 32) : bits_Len64.j0 (k + 1) w m = some ((m + bl w : Nat) : Int) := by
 have q16 : wrap64 ((m : Int) + 16) = ((m + 16 : Nat) : Int) := by rw [wrapS (by omega) (by omega)]; rfl
 have q168 : wrap64 (((m + 16 : Nat) : Int) + 8) = ((m + 16 + 8 : Nat) : Int) := by rw [wrapS (by omega) (by omega)]; rfl
 have q8 : wrap64 ((m : Int) + 8) = ((m + 8 : Nat) : Int) := by rw [wrapS (by omega) (by omega)]; rfl
 have qb : ∀ x : Nat, x ≤ 8 → wrap64 (x : Int) = (x : Int) := fun x h => wrapS (by omega) (by omega)
 have qa : ∀ a x : Nat, a ≤ 100 → x ≤ 8 → wrap64 ((a : Int) + (x : Int)) = ((a + x : Nat) : Int) := fun a x h g => by rw [wrapS (by omega) (by omega)]; omega
 simp only [bits_Len64.j0]
 have d1 : (w : Int) / 65536 = ((w / 65536 : Nat) : Int) := divN w 65536
 have d2 : ((w / 65536 : Nat) : Int) / 256 = ((w / 65536 / 256 : Nat) : Int) := divN _ 256
 have d3 : (w : Int) / 256 = ((w / 256 : Nat) : Int) := divN w 256
 have m1 : ∀ x : Nat, x < 256 → ((x : Nat) : Int) % 256 = (x : Int) := fun x h => by omega
 have bl8 : ∀ x, x < 256 → bl x ≤ 8 := fun x h => bl_le_iff.2 h
 have t1 : ∀ x : Nat, x < 256 → bt (⟨#[0, 1, 2, 2, 3, 3, 3, 3, 4, 4, 4, 4, 4, 4, 4, 4, 5, 5, 5, 5, 5, 5, 5, 5, 5, 5, 5, 5, 5, 5, 5, 5, 6, 6, 6, 6, 6, 6, 6, 6, 6, 6, 6, 6, 6, 6, 6, 6, 6, 6, 6, 6, 6, 6, 6, 6, 6, 6, 6, 6, 6, 6, 6, 6, 7, 7, 7, 7, 7, 7, 7, 7, 7, 7, 7, 7, 7, 7, 7, 7, 7, 7, 7, 7, 7, 7, 7, 7, 7, 7, 7, 7, 7, 7, 7, 7, 7, 7, 7, 7, 7, 7, 7, 7, 7, 7, 7, 7, 7, 7, 7, 7, 7, 7, 7, 7, 7, 7, 7, 7, 7, 7, 7, 7, 7, 7, 7, 7, 8, 8, 8, 8, 8, 8, 8, 8, 8, 8, 8, 8, 8, 8, 8, 8, 8, 8, 8, 8, 8, 8, 8, 8, 8, 8, 8, 8, 8, 8, 8, 8, 8, 8, 8, 8, 8, 8, 8, 8, 8, 8, 8, 8, 8, 8, 8, 8, 8, 8, 8, 8, 8, 8, 8, 8, 8, 8, 8, 8, 8, 8, 8, 8, 8, 8, 8, 8, 8, 8, 8, 8, 8, 8, 8, 8, 8, 8, 8, 8, 8, 8, 8, 8, 8, 8, 8, 8, 8, 8, 8, 8, 8, 8, 8, 8, 8, 8, 8, 8, 8, 8, 8, 8, 8, 8, 8, 8, 8, 8, 8, 8, 8, 8, 8, 8, 8, 8, 8, 8, 8, 8, 8, 8, 8, 8, 8, 8]⟩ : ByteArray) (x : Int) = (bl x : Int) := len8_eq
 rw [d1, d2, d3]
 by_cases h : 65536 ≤ w
 ·have s1 := bl_shift (w := w) (t := 16) h
  have l1 : w / 65536 < 65536 := by omega
  rw [if_pos (by omega)]
  by_cases g : 256 ≤ w / 65536
  ·have s2 := bl_shift (w := w / 65536) (t := 8) g
   have l2 : w / 65536 / 256 < 256 := by omega
   have l3 := bl8 _ l2
   rw [if_pos (by omega), m1 _ l2, if_pos (by omega), if_pos (by omega), t1 _ l2, q16, q168, qb _ l3, qa _ _ (by omega) l3]
   rw [s1]
   have s2' : bl (w / 65536) = bl (w / 65536 / 256) + 8 := s2
   have s3 : bl (w / 2 ^ 16) = bl (w / 65536 / 256) + 8 := s2
   rw [s3]; congr 1; omega
  have l2 : w / 65536 < 256 := by omega
  have l3 := bl8 _ l2
  rw [if_neg (by omega), m1 _ l2, if_pos (by omega), if_pos (by omega), t1 _ l2, q16, qb _ l3, qa _ _ (by omega) l3]
  have s3 : bl w = bl (w / 65536) + 16 := s1
  rw [s3]; congr 1; omega
 rw [if_neg (by omega)]
 by_cases g : 256 ≤ w
 ·have s2 := bl_shift (w := w) (t := 8) g
  have l2 : w / 256 < 256 := by omega
  have l3 := bl8 _ l2
  rw [if_pos (by omega), m1 _ l2, if_pos (by omega), if_pos (by omega), t1 _ l2, q8, qb _ l3, qa _ _ (by omega) l3]
  have s3 : bl w = bl (w / 256) + 8 := s2
  rw [s3]; congr 1; omega
 have l2 : w < 256 := by omega
 have l3 := bl8 _ l2
 rw [if_neg (by omega), m1 _ l2, if_pos (by omega), if_pos (by omega), t1 _ l2, qb _ l3, qa _ _ (by omega) l3]
theorem Len64_eq (k w : Nat) (hw : w < 18446744073709551616) (hk : 1 < k) : bits_Len64.f k w = some ((bl w : Nat) : Int) := by
 obtain ⟨k, rfl⟩ : ∃ m, k = m + 1 := ⟨k - 1, by omega⟩
 unfold bits_Len64.f
 by_cases h : 4294967296 ≤ w
 ·have d1 : (w : Int) / 4294967296 = ((w / 4294967296 : Nat) : Int) := divN w 4294967296
  have s1 : bl w = bl (w / 4294967296) + 32 := bl_shift (w := w) (t := 32) h
  have := Len64_j0 k (w / 4294967296) 32 (by omega) (by omega)
  rw [if_pos (by omega), d1, s1]
  refine this.trans ?_
  congr 1; omega
 have := Len64_j0 k w 0 (by omega) (by omega)
 rw [Nat.zero_add] at this
 rw [if_neg (by omega)]; exact this
end Go.Proofs.YtnjfckadjklmfaaDoor.Nf
namespace Go.Proofs.YtnjfckadjklmfaaDoor.Nf
open Go.RowKit Go.Proofs.YtnjfckadjklmfaaDoor.PAll Go.Proofs.YtnjfckadjklmfaaDoorW.PrintWords Go.Proofs.YtnjfckadjklmfaaDoorW.PrintLast Go.Proofs.YtnjfckadjklmfaaDoorW.PrintMore Go.Proofs.YtnjfckadjklmfaaDoor.Nm
set_option linter.unusedVariables false
set_option linter.unusedSimpArgs false
theorem q32 {Q : Nat} (h : Q < 4294967296) : Q * 4294967296 < 18446744073709551616 := by omega
end Go.Proofs.YtnjfckadjklmfaaDoor.Nf
