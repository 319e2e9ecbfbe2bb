/- Plain part. -/
import Derived.Test.YtnjfckadjklmfaaDoorXRoundWithinP19
import Derived.Laws.BitsAllLaws
import Derived.Test.YtnjfckadjklmfaaDoorXRoundWithinP10
import Derived.Laws.Bits64b
import Derived.Laws.Closers25b
import Derived.Test.YtnjfckadjklmfaaDoorXRoundWithinP14
namespace Go.Proofs.YtnjfckadjklmfaaDoor.Nm
set_option linter.unusedVariables false
def val : List Int → Nat
 | [] => 0
 | w :: l => w.toNat + 18446744073709551616 * val l
def Ws (l : List Int) : Prop := ∀ x ∈ l, 0 ≤ x ∧ x < 18446744073709551616
def Nrm : List Int → Prop
 | [] => True
 | [w] => w ≠ 0
 | _ :: l => Nrm l
def ofN (n : Nat) : List Int := if n = 0 then [] else ((n % 18446744073709551616 : Nat) : Int) :: ofN (n / 18446744073709551616)
termination_by n
decreasing_by omega
theorem Z0e : ofN 0 = [] := by unfold ofN; simp
theorem Z3u {n : Nat} (h : n ≠ 0) : ofN n = ((n % 18446744073709551616 : Nat) : Int) :: ofN (n / 18446744073709551616) := by
 rw [ofN]; simp [h]
theorem Z1B : Ws [] := fun _ h => by cases h
theorem Z25 {w : Int} {l : List Int} : Ws (w :: l) ↔ (0 ≤ w ∧ w < 18446744073709551616) ∧ Ws l := by
 unfold Ws; simp
theorem Z2U {a b : List Int} : Ws (a ++ b) ↔ Ws a ∧ Ws b := by
 unfold Ws; simp only [List.mem_append]
 constructor
 ·intro h; exact ⟨fun x hx => h x (.inl hx), fun x hx => h x (.inr hx)⟩
 rintro ⟨h, g⟩ x (hx | hx)
 ·exact h x hx
 exact g x hx
theorem Z3W {l : List Int} (h : Ws l) (n : Nat) : Ws (l.take n) := fun x hx => h x (List.mem_of_mem_take hx)
theorem Zan {l : List Int} (h : Ws l) (n : Nat) : Ws (l.drop n) := fun x hx => h x (List.mem_of_mem_drop hx)
theorem Z2Y {l : List Int} (h : Ws l) (i : Nat) {w : Int} (h0 : 0 ≤ w) (h1 : w < 18446744073709551616) : Ws (l.set i w) := by
 intro x hx
 rcases List.mem_or_eq_of_mem_set hx with hx | rfl
 ·exact h x hx
 exact ⟨h0, h1⟩
theorem Z1J (n : Nat) : Ws (List.replicate n 0) := by
 intro x hx
 obtain ⟨_, rfl⟩ := List.mem_replicate.1 hx
 omega
theorem Z0H {l : List Int} (h : Ws l) (i : Nat) : 0 ≤ l.getD i 0 ∧ l.getD i 0 < 18446744073709551616 := by
 by_cases hi : i < l.length
 ·rw [List.getD_eq_getElem?_getD, List.getElem?_eq_getElem hi]
  exact h _ (List.getElem_mem hi)
 rw [List.getD_eq_getElem?_getD, List.getElem?_eq_none (by omega)]
 simp
theorem Z2f : val [] = 0 := rfl
theorem Z1P (w : Int) (l : List Int) : val (w :: l) = w.toNat + 18446744073709551616 * val l := rfl
theorem Z45 (a b : List Int) : val (a ++ b) = val a + 18446744073709551616 ^ a.length * val b := by
 induction a with
 | nil => simp [val]
 | cons w a ih =>
  rw [List.cons_append, Z1P, Z1P, ih, List.length_cons, Nat.pow_succ, Nat.mul_add, ← Nat.add_assoc]
  congr 1
  rw [← Nat.mul_assoc, Nat.mul_comm 18446744073709551616 (18446744073709551616 ^ a.length), Nat.mul_assoc]
theorem Z3o (n : Nat) : val (List.replicate n 0) = 0 := by
 induction n with
 | zero => rfl
 | succ n ih => rw [List.replicate_succ, Z1P, ih]; rfl
theorem Z20 {l : List Int} (h : Ws l) : val l < 18446744073709551616 ^ l.length := by
 induction l with
 | nil => simp [val]
 | cons w l ih =>
  obtain ⟨hw, hl⟩ := Z25.1 h
  have := ih hl
  rw [Z1P, List.length_cons, Nat.pow_succ]
  generalize 18446744073709551616 ^ l.length = p at *
  omega
theorem Z0C (l : List Int) (i : Nat) (hi : i < l.length) : val (l.take (i + 1)) = val (l.take i) + 18446744073709551616 ^ i * (l.getD i 0).toNat := by
 rw [List.take_succ_eq_append_getElem hi, Z45, List.length_take, Nat.min_eq_left (by omega), List.getD_eq_getElem?_getD, List.getElem?_eq_getElem hi]
 simp [val]
theorem ZP (l : List Int) (i : Nat) (hi : l.length ≤ i) : val (l.take i) = val l := by rw [List.take_of_length_le hi]
theorem Z2G (l : List Int) (i : Nat) (hi : i ≤ l.length) : val l = val (l.take i) + 18446744073709551616 ^ i * val (l.drop i) := by
 conv => lhs; rw [← List.take_append_drop i l]
 rw [Z45, List.length_take, Nat.min_eq_left hi]
theorem Z21 (l : List Int) (i : Nat) (w : Int) (hi : i < l.length) : val ((l.set i w).take (i + 1)) = val (l.take i) + 18446744073709551616 ^ i * w.toNat := by
 rw [Z0C _ _ (by rw [List.length_set]; exact hi), List.take_set_of_le (Nat.le_refl i)]
 simp [hi]
theorem Z1V (l : List Int) (i j : Nat) (w : Int) (h : i ≠ j) : (l.set i w).getD j 0 = l.getD j 0 := by
 simp [List.getD_eq_getElem?_getD, List.getElem?_set_ne h]
theorem Z2q (l : List Int) (i : Nat) (w : Int) (h : i < l.length) : (l.set i w).getD i 0 = w := by
 simp [List.getD_eq_getElem?_getD, h]
theorem Z2g (l : List Int) (i : Nat) (h : l.length ≤ i) : l.getD i 0 = 0 := by
 rw [List.getD_eq_getElem?_getD, List.getElem?_eq_none h]; rfl
theorem Z0h (l : List Int) (i : Nat) : val (l.take (i + 1)) = val (l.take i) + 18446744073709551616 ^ i * (l.getD i 0).toNat := by
 by_cases h : i < l.length
 ·exact Z0C l i h
 rw [Z2g _ _ (by omega), ZP _ _ (by omega), ZP _ _ (by omega)]; simp
theorem Zy (n : Nat) : val (ofN n) = n := by
 induction n using Nat.strongRecOn with
 | _ n ih =>
  by_cases h : n = 0
  ·subst h; rw [Z0e]; rfl
  rw [Z3u h, Z1P, ih _ (by omega)]; simp only [Int.toNat_natCast]; omega
theorem ZT (n : Nat) : Ws (ofN n) := by
 induction n using Nat.strongRecOn with
 | _ n ih =>
  by_cases h : n = 0
  ·subst h; rw [Z0e]; exact Z1B
  rw [Z3u h]; exact Z25.2 ⟨by omega, ih _ (by omega)⟩
theorem Zao {w : Int} {l : List Int} (hw : Ws (w :: l)) (hn : Nrm (w :: l)) : val (w :: l) ≠ 0 := by
 induction l generalizing w with
 | nil =>
  have := (Z25.1 hw).1
  have hn' : w ≠ 0 := hn
  rw [Z1P, Z2f]; omega
 | cons v l ih =>
  have h2 : Nrm (v :: l) := hn
  have := ih (Z25.1 hw).2 h2
  rw [Z1P]; omega
theorem Z8q {l : List Int} (hw : Ws l) (hn : Nrm l) : l = ofN (val l) := by
 induction l with
 | nil => rw [Z2f, Z0e]
 | cons w l ih =>
  have h0 := Zao hw hn
  obtain ⟨h1, h2⟩ := Z25.1 hw
  rw [Z3u h0]
  have hl : Nrm l := by
   cases l with
   | nil => trivial
   | cons v l => exact hn
  have e1 : ((val (w :: l) % 18446744073709551616 : Nat) : Int) = w := by rw [Z1P]; omega
  have e2 : val (w :: l) / 18446744073709551616 = val l := by rw [Z1P]; omega
  rw [e1, e2, ← ih h2 hl]
theorem Z1g (n m : Nat) : (ofN n).length ≤ m ↔ n < 18446744073709551616 ^ m := by
 induction m generalizing n with
 | zero =>
  by_cases h : n = 0
  ·subst h; rw [Z0e]; simp
  rw [Z3u h]; simp; omega
 | succ m ih =>
  by_cases h : n = 0
  ·subst h; rw [Z0e]; simp; exact Nat.pow_pos (by decide)
  rw [Z3u h, List.length_cons, Nat.pow_succ]
  have := ih (n / 18446744073709551616)
  rw [Nat.div_lt_iff_lt_mul (by decide)] at this
  omega
theorem Z4M {l : List Int} {w : Int} (h : w ≠ 0) : Nrm (l ++ [w]) := by
 induction l with
 | nil => exact h
 | cons v l ih =>
  cases l with
  | nil => exact h
  | cons u l => exact ih
def Z1E (a b : Nat) : Int := if a < b then -1 else if a = b then 0 else 1
theorem pow_pos (n : Nat) : 0 < 18446744073709551616 ^ n := Nat.pow_pos (by decide)
theorem Z8r {p a b x y : Nat} (ha : a < p) (h : x < y) : a + p * x < b + p * y := by
 have : p * (x + 1) ≤ p * y := Nat.mul_le_mul_left p h
 rw [Nat.mul_add] at this
 omega
theorem Z6s {p a b x y : Nat} (ha : a < p) (hb : b < p) : Z1E (a + p * x) (b + p * y) = if x < y then -1 else if x > y then 1 else Z1E a b := by
 unfold Z1E
 by_cases h : x < y
 ·have := Z8r (b := b) ha h
  rw [if_pos this, if_pos h]
 rw [if_neg h]
 by_cases g : x > y
 ·have := Z8r (b := a) hb g
  rw [if_neg (by omega), if_neg (by omega), if_pos g]
 have : x = y := by omega
 subst this
 rw [if_neg g]
 by_cases c : a < b
 ·rw [if_pos c, if_pos (by omega)]
 rw [if_neg c, if_neg (by omega)]
 by_cases d : a = b
 ·rw [if_pos d, if_pos (by omega)]
 rw [if_neg d, if_neg (by omega)]
theorem Z4Q {a b : Nat} (h : (ofN a).length < (ofN b).length) : a < b := by
 have h1 := (Z1g a (ofN a).length).1 (Nat.le_refl _)
 have h2 : ¬ b < 18446744073709551616 ^ (ofN a).length := fun g => by
  have := (Z1g b (ofN a).length).2 g
  omega
 omega
def big : Nat := 18446744073709551616 ^ 1024
theorem Z3v (v : Nat) : (ofN v).length ≤ 1024 ↔ v < big := by unfold big; exact Z1g v 1024
def bl (n : Nat) : Nat := if n = 0 then 0 else bl (n / 2) + 1
termination_by n
decreasing_by omega
theorem Z1X : bl 0 = 0 := by unfold bl; simp
theorem Z6t {n : Nat} (h : n ≠ 0) : bl n = bl (n / 2) + 1 := by rw [bl]; simp [h]
theorem Z7d (n : Nat) : n < 2 ^ bl n ∧ (n ≠ 0 → 2 ^ bl n ≤ 2 * n) := by
 induction n using Nat.strongRecOn with
 | _ n ih =>
  by_cases h : n = 0
  ·subst h; rw [Z1X]; simp
  obtain ⟨a, b⟩ := ih (n / 2) (by omega)
  rw [Z6t h, Nat.pow_succ]
  refine ⟨by omega, fun _ => ?_⟩
  by_cases g : n / 2 = 0
  ·rw [g, Z1X]; omega
  have := b g; omega
theorem Z2H (n : Nat) : n < 2 ^ bl n := (Z7d n).1
theorem Z46 {n : Nat} (h : n ≠ 0) : 2 ^ bl n ≤ 2 * n := (Z7d n).2 h
theorem Z47 {n : Nat} (h : n ≠ 0) : bl n ≠ 0 := by rw [Z6t h]; omega
theorem Z7W {n : Nat} : bl n = 0 ↔ n = 0 := ⟨fun h => Classical.byContradiction fun g => Z47 g h, fun h => by rw [h, Z1X]⟩
theorem Z2a {n m : Nat} (h : 2 ^ m ≤ n) (g : n < 2 ^ (m + 1)) : bl n = m + 1 := by
 have hn : n ≠ 0 := by have : 0 < 2 ^ m := Nat.pow_pos (by decide); omega
 have a := Z2H n; have b := Z46 hn
 have c : m < bl n := (Nat.pow_lt_pow_iff_right (a := 2) (by decide)).1 (by omega)
 have d : bl n < m + 2 := (Nat.pow_lt_pow_iff_right (a := 2) (by decide)).1 (by rw [Nat.pow_succ] at *; omega)
 omega
theorem Z1K {n m : Nat} : bl n ≤ m ↔ n < 2 ^ m := by
 constructor
 ·intro h; exact Nat.lt_of_lt_of_le (Z2H n) (Nat.pow_le_pow_right (by decide) h)
 intro h
 by_cases g : n = 0
 ·rw [g, Z1X]; omega
 have b := Z46 g
 have : bl n < m + 1 := (Nat.pow_lt_pow_iff_right (a := 2) (by decide)).1 (by rw [Nat.pow_succ]; omega)
 omega
theorem Z5b {n : Nat} (h : n ≠ 0) (m : Nat) : bl (n * 2 ^ m) = bl n + m := by
 have a := Z2H n; have b := Z46 h; have c := Z47 h
 have e : bl n + m = (bl n - 1 + m) + 1 := by omega
 have e2 : bl n = (bl n - 1) + 1 := by omega
 rw [e]
 apply Z2a
 ·rw [e2, Nat.pow_succ] at b
  rw [Nat.pow_add]; exact Nat.mul_le_mul_right _ (by omega)
 rw [← e, Nat.pow_add]; exact Nat.mul_lt_mul_of_pos_right a (Nat.pow_pos (by decide))
theorem Z7e {a b : Nat} (h : a ≤ b) : bl a ≤ bl b := Z1K.2 (Nat.lt_of_le_of_lt h (Z2H b))
theorem Zbn {v w m : Nat} (hv : v < 18446744073709551616 ^ m) (hw : w ≠ 0) : bl (v + 18446744073709551616 ^ m * w) = 64 * m + bl w := by
 have a := Z2H w; have b := Z46 hw; have c := Z47 hw
 have e : (18446744073709551616 : Nat) ^ m = 2 ^ (64 * m) := by rw [Nat.pow_mul]
 rw [e] at hv ⊢
 have e3 : 64 * m + bl w = (64 * m + (bl w - 1)) + 1 := by omega
 rw [e3]
 apply Z2a
 ·have : 2 ^ (64 * m) * 2 ^ (bl w - 1) ≤ 2 ^ (64 * m) * w := by
   refine Nat.mul_le_mul_left _ ?_
   have e2 : bl w = (bl w - 1) + 1 := by omega
   rw [e2, Nat.pow_succ] at b; omega
  rw [Nat.pow_add]; omega
 rw [← e3, Nat.pow_add]
 have : 2 ^ (64 * m) * (w + 1) ≤ 2 ^ (64 * m) * 2 ^ bl w := Nat.mul_le_mul_left _ (by omega)
 rw [Nat.mul_add] at this; omega
theorem Z48 {x : Nat} : x < big ↔ bl x ≤ 65536 := by
 have h : ∀ m, x < 18446744073709551616 ^ m ↔ bl x ≤ 64 * m := fun m => by
  have e : (18446744073709551616 : Nat) ^ m = 2 ^ (64 * m) := by rw [Nat.pow_mul]
  rw [e, Z1K]
 unfold big
 exact h 1024
theorem Z7f {v n : Nat} (h : v ≠ 0) : v * 2 ^ n < big ↔ bl v + n ≤ 65536 := by
 rw [Z48, Z5b h]
theorem Z4R {S T P x0 X a c r B lo : Nat} (hB : S * T = B) (hr : r = a / S + T * (c % S)) (hv : S * lo + x0 = X + P * (a % S)) : S * (lo + P * r) + x0 = X + P * a + P * B * (c % S) := by
 have e := Nat.div_add_mod a S
 rw [hr, Nat.mul_add, Nat.mul_add P, Nat.mul_add, ← hB]
 have e2 : S * (P * (a / S)) + P * (a % S) = P * a := by rw [← Nat.mul_assoc, Nat.mul_comm S P, Nat.mul_assoc, ← Nat.mul_add, e]
 have e3 : S * (P * (T * (c % S))) = P * (S * T) * (c % S) := by
  rw [← Nat.mul_assoc S P, Nat.mul_comm S P, Nat.mul_assoc, ← Nat.mul_assoc S T, ← Nat.mul_assoc P]
 rw [e3]; omega
theorem Z5A {S r x0 X : Nat} (h0 : x0 < S) (h : S * r + x0 = X) : r = X / S ∧ x0 = X % S := by
 subst h
 constructor
 ·rw [Nat.mul_add_div (by omega), Nat.div_eq_of_lt h0]; rfl
 rw [Nat.mul_add_mod, Nat.mod_eq_of_lt h0]
theorem Z7g {P S t X v : Nat} (ht : t < P) (hv : v = t + P * X) : v / (P * S) = X / S ∧ v % (P * S) = t + P * (X % S) := by
 have hp : 0 < P := by omega
 subst hv
 have e : (t + P * X) / P = X := by rw [Nat.add_mul_div_left _ _ hp, Nat.div_eq_of_lt ht]; omega
 have e2 : (t + P * X) % P = t := by rw [Nat.add_mul_mod_self_left, Nat.mod_eq_of_lt ht]
 constructor
 ·rw [← Nat.div_div_eq_div_mul, e]
 rw [Nat.mod_mul, e, e2]
theorem Z6u {v : Nat} : ofN v = [] ↔ v = 0 := by
 constructor
 ·intro h; have := Zy v; rw [h] at this; exact this.symm
 intro h; rw [h, Z0e]
def rnd (v n : Nat) : Nat := v / 2 ^ n + if v / 2 ^ (n - 1) % 2 = 1 ∧ (v % 2 ^ (n - 1) ≠ 0 ∨ v / 2 ^ n % 2 = 1) then 1 else 0
theorem Z1n (n : Nat) : 0 < 2 ^ n := Nat.pow_pos (by decide)
theorem Z3D (v : Nat) {n : Nat} (h : 1 ≤ n) : rnd v n = v / 2 ^ n + if 2 ^ n < 2 * (v % 2 ^ n) ∨ (2 * (v % 2 ^ n) = 2 ^ n ∧ v / 2 ^ n % 2 = 1) then 1 else 0 := by
 unfold rnd
 congr 1
 obtain ⟨m, rfl⟩ : ∃ m, n = m + 1 := ⟨n - 1, by omega⟩
 rw [Nat.add_sub_cancel]
 have hp := Z1n m
 have e1 := Nat.div_add_mod v (2 ^ (m + 1))
 have l1 := Nat.mod_lt v (Z1n (m + 1))
 rw [Nat.pow_succ] at *
 generalize hq : v / (2 ^ m * 2) = q at *
 generalize hr : v % (2 ^ m * 2) = r at *
 generalize 2 ^ m = M at *
 have d : v / M % 2 = (if M ≤ r then 1 else 0) ∧ v % M = (if M ≤ r then r - M else r) := by
  by_cases c : M ≤ r
  ·rw [if_pos c, if_pos c]
   have e : v = M * (2 * q + 1) + (r - M) := by
    rw [← e1, Nat.mul_add, Nat.mul_one, Nat.mul_assoc]; omega
   constructor
   ·rw [e, Nat.mul_add_div hp, Nat.div_eq_of_lt (by omega)]; omega
   rw [e, Nat.mul_add_mod, Nat.mod_eq_of_lt (by omega)]
  rw [if_neg c, if_neg c]
  have e : v = M * (2 * q) + r := by rw [← e1, Nat.mul_assoc]
  constructor
  ·rw [e, Nat.mul_add_div hp, Nat.div_eq_of_lt (by omega)]; omega
  rw [e, Nat.mul_add_mod, Nat.mod_eq_of_lt (by omega)]
 rw [d.1, d.2]
 by_cases c : M ≤ r
 ·rw [if_pos c, if_pos c]
  by_cases x : r = M
  ·subst x
   by_cases y : q % 2 = 1
   ·rw [if_pos ⟨rfl, .inr y⟩, if_pos (.inr ⟨by omega, y⟩)]
   rw [if_neg (by omega), if_neg (by omega)]
  rw [if_pos ⟨rfl, .inl (by omega)⟩, if_pos (.inl (by omega))]
 rw [if_neg c, if_neg (by omega), if_neg (by omega)]
theorem Z6v {v m n : Nat} (h : m * 2 ^ n ≤ v) : m ≤ rnd v n := by
 have := (Nat.le_div_iff_mul_le (Z1n n)).2 h
 unfold rnd
 exact Nat.le_trans this (Nat.le_add_right _ _)
theorem Z6w {v m n : Nat} (hn : 1 ≤ n) (h : v ≤ m * 2 ^ n) : rnd v n ≤ m := by
 rw [Z3D v hn]
 have e := Nat.div_add_mod v (2 ^ n)
 have hp := Z1n n
 generalize v / 2 ^ n = q at *
 generalize v % 2 ^ n = r at *
 generalize 2 ^ n = P at *
 rcases Nat.lt_trichotomy q m with c | c | c
 ·split <;> omega
 ·subst c
  have : r = 0 := by
   rw [Nat.mul_comm] at h; omega
  subst this
  split
  ·omega
  omega
 have : m * P + P ≤ q * P := by
  have := Nat.mul_le_mul_right P c
  rw [Nat.succ_mul] at this; exact this
 rw [Nat.mul_comm P q] at e
 omega
theorem Z6x {v w n : Nat} (hn : 1 ≤ n) (h : v ≤ w) : rnd v n ≤ rnd w n := by
 by_cases c : v / 2 ^ n = w / 2 ^ n
 ·rw [Z3D v hn, Z3D w hn, c]
  have e := Nat.div_add_mod v (2 ^ n)
  have f := Nat.div_add_mod w (2 ^ n)
  rw [c] at e
  generalize v % 2 ^ n = r at *
  generalize w % 2 ^ n = s at *
  generalize 2 ^ n = P at *
  generalize w / P = q at *
  have : r ≤ s := by omega
  apply Nat.add_le_add_left
  split
  ·rename_i x
   rw [if_pos (by omega)]; exact Nat.le_refl _
  split <;> omega
 have l := Nat.div_le_div_right (c := 2 ^ n) h
 have l2 : v / 2 ^ n + 1 ≤ w / 2 ^ n := by omega
 have a : rnd v n ≤ v / 2 ^ n + 1 := by unfold rnd; split <;> omega
 have b : w / 2 ^ n ≤ rnd w n := by unfold rnd; omega
 omega
theorem P52 : (2 : Nat) ^ 52 = 4503599627370496 := by decide
theorem P53 : (2 : Nat) ^ 53 = 9007199254740992 := by decide
def INn : Nat := 9218868437227405312
def shA (K A : Nat) : Nat := max (bl A - 53) K
def cdA (K A : Nat) : Nat := (shA K A - K) * 4503599627370496 + rnd A (shA K A)
def mbA (K A : Nat) : Nat := min INn (cdA K A)
def lsA (K A : Nat) : Prop := INn ≤ cdA K A ∨ A % 2 ^ shA K A ≠ 0
def tyA (K A : Nat) : Prop := rnd A (K - 1) < 9007199254740992
theorem Z5c (K A : Nat) : K ≤ shA K A := Nat.le_max_right _ _
theorem Z7h {K A : Nat} (hK : 1 ≤ K) : rnd A (shA K A) ≤ 9007199254740992 := by
 refine Z6w (Nat.le_trans hK (Z5c K A)) ?_
 rw [← P53, ← Nat.pow_add]
 refine Nat.le_of_lt (Nat.lt_of_lt_of_le (Z2H A) (Nat.pow_le_pow_right (by decide) ?_))
 have : bl A - 53 ≤ shA K A := Nat.le_max_left _ _
 omega
theorem Zc9 {K A : Nat} (h : K < shA K A) : 4503599627370496 * 2 ^ shA K A ≤ A := by
 have e : shA K A = bl A - 53 := by unfold shA at *; omega
 have z : A ≠ 0 := by rintro rfl; rw [Z1X] at e; omega
 have := Z46 z
 have e2 : bl A = 53 + shA K A := by omega
 rw [e2, Nat.pow_add, P53] at this
 generalize 2 ^ shA K A = P at *
 omega
theorem Z7i {K A : Nat} (h : K < shA K A) : 4503599627370496 ≤ rnd A (shA K A) := Z6v (Zc9 h)
theorem Z9j {K A B : Nat} (hK : 1 ≤ K) (h : A ≤ B) : cdA K A ≤ cdA K B := by
 have b := Z7e h
 have s : shA K A ≤ shA K B := by unfold shA; omega
 have g := Z5c K A
 unfold cdA
 by_cases e : shA K A = shA K B
 ·have := Z6x (n := shA K B) (by omega) h
  rw [e]; omega
 have t := Z7h (K := K) (A := A) hK
 have u := Z7i (K := K) (A := B) (by omega)
 obtain ⟨a, ha⟩ : ∃ a, shA K A - K = a := ⟨_, rfl⟩
 obtain ⟨c, hc⟩ : ∃ c, shA K B - K = c := ⟨_, rfl⟩
 have l : a + 1 ≤ c := by omega
 rw [ha, hc]
 omega
theorem Z49 {K A B : Nat} (hK : 1 ≤ K) (h : A ≤ B) : mbA K A ≤ mbA K B := by
 have := Z9j hK h
 unfold mbA; omega
theorem Z4a {K A B : Nat} (hK : 2 ≤ K) (h : A ≤ B) (t : tyA K B) : tyA K A :=
 Nat.lt_of_le_of_lt (Z6x (by omega) h) t
theorem Z6y (n : Nat) : rnd 0 n = 0 := by unfold rnd; simp
theorem Z9k (K : Nat) : tyA K 0 := by unfold tyA; rw [Z6y]; decide
theorem Z4S (K : Nat) : cdA K 0 = 0 := by unfold cdA shA; rw [Z6y, Z1X]; simp
def tC (c : Nat) : Nat := c / 4503599627370496 - 1
def mC (c : Nat) : Nat := if c < 4503599627370496 then c else c % 4503599627370496 + 4503599627370496
def amc (K c : Nat) : Nat := mC c * 2 ^ (K + tC c)
theorem Zbo (K : Nat) {t m : Nat} (h : m ≤ 9007199254740992) (g : 4503599627370496 ≤ m ∨ t = 0) : amc K (t * 4503599627370496 + m) = m * 2 ^ (K + t) := by
 unfold amc
 by_cases e : m = 9007199254740992
 ·subst e
  have a : tC (t * 4503599627370496 + 9007199254740992) = t + 1 := by unfold tC; omega
  have b : mC (t * 4503599627370496 + 9007199254740992) = 4503599627370496 := by unfold mC; split <;> omega
  rw [a, b, ← Nat.add_assoc, Nat.pow_succ]
  generalize 2 ^ (K + t) = P
  omega
 have a : tC (t * 4503599627370496 + m) = t := by unfold tC; omega
 have b : mC (t * 4503599627370496 + m) = m := by unfold mC; split <;> omega
 rw [a, b]
theorem Z8s {K A : Nat} (hK : 1 ≤ K) : amc K (cdA K A) = rnd A (shA K A) * 2 ^ shA K A := by
 have g := Z5c K A
 unfold cdA
 rw [Zbo K (Z7h hK) (by by_cases e : K < shA K A; exact .inl (Z7i e); right; omega), Nat.add_sub_cancel' g]
theorem Z6z {m n r : Nat} (hn : 1 ≤ n) (hr : r < 2 ^ n) : rnd (m * 2 ^ n + r) n = m + if 2 ^ n < 2 * r ∨ (2 * r = 2 ^ n ∧ m % 2 = 1) then 1 else 0 := by
 rw [Z3D _ hn, show (m * 2 ^ n + r) / 2 ^ n = m by rw [Nat.mul_comm, Nat.mul_add_div (Z1n n), Nat.div_eq_of_lt hr, Nat.add_zero], show (m * 2 ^ n + r) % 2 ^ n = r by rw [Nat.mul_comm, Nat.mul_add_mod, Nat.mod_eq_of_lt hr]]
theorem Z7j (m : Nat) {n : Nat} (hn : 1 ≤ n) : rnd (m * 2 ^ n) n = m := by
 have := Z6z (m := m) (n := n) (r := 0) hn (Z1n n)
 rw [Nat.add_zero] at this
 rw [this, if_neg (by have := Z1n n; omega), Nat.add_zero]
theorem Zbp {K A : Nat} (hK : 1 ≤ K) (h : ¬ lsA K A) : A = amc K (cdA K A) ∧ cdA K A < INn := by
 unfold lsA at h
 have h1 : ¬ INn ≤ cdA K A := fun c => h (.inl c)
 have h2 : A % 2 ^ shA K A = 0 := Classical.byContradiction fun c => h (.inr c)
 refine ⟨?_, by omega⟩
 rw [Z8s hK]
 have d : ∀ n, 1 ≤ n → A % 2 ^ n = 0 → A = rnd A n * 2 ^ n := fun n hn z => by
  have e := Nat.div_add_mod A (2 ^ n)
  rw [z, Nat.add_zero, Nat.mul_comm] at e
  have r := Z7j (A / 2 ^ n) hn
  rw [e] at r
  rw [r, e]
 exact d _ (Nat.le_trans hK (Z5c K A)) h2
end Go.Proofs.YtnjfckadjklmfaaDoor.Nm

namespace Go.Proofs.YtnjfckadjklmfaaDoor.Nb
open RowKit YtnjfckadjklmfaaDoor.PAll YtnjfckadjklmfaaDoorW.PrintWords YtnjfckadjklmfaaDoorW.PrintLast YtnjfckadjklmfaaDoorW.PrintMore
set_option linter.unusedVariables false
set_option linter.unusedSimpArgs false
def W64 (x : Int) : Prop := 0 ≤ x ∧ x < 18446744073709551616
theorem Z3K {x : Int} (h0 : 0 ≤ x) (h1 : x < 18446744073709551616) : IntKind.u64.wrap x = x := by
 rw [IntKind.wrap_u64]; omega
theorem ZU {x : Int} (h0 : -9223372036854775808 ≤ x) (h1 : x < 9223372036854775808) : wrap64 x = x := by
 unfold wrap64; omega
theorem Z2y {x : Int} (h : 0 ≤ x) : ((x.toNat : Nat) : Int) = x := Int.toNat_of_nonneg h
theorem Zap {x : Int} (i : Nat) (hx : W64 x) (hi : i < 64) : Go.bits .and .u64 x (((2 ^ i : Nat) : Int)) = x / ((2 ^ i : Nat) : Int) % 2 * ((2 ^ i : Nat) : Int) := by
 have hp : (2 ^ i : Nat) < 18446744073709551616 := by
  have := Nat.pow_lt_pow_right (a := 2) Zd hi
  omega
 rw [u64_and x _ hx.1 hx.2 (zk5 _) Zo, zk4, nat_bit]
 rw [Int.natCast_mul, Int.natCast_emod, Int.natCast_ediv, Z2y hx.1]; rfl
theorem Z4T {x : Int} (i : Nat) (hx : W64 x) (hi : i ≤ 64) : Go.bits .and .u64 x (((2 ^ i - 1 : Nat) : Int)) = x % ((2 ^ i : Nat) : Int) := by
 have hp : (2 ^ i : Nat) ≤ 18446744073709551616 := by
  have := zkl (n := 2) Zd hi
  omega
 have hp0 : 0 < (2 ^ i : Nat) := Nat.two_pow_pos i
 rw [u64_and x _ hx.1 hx.2 (zk5 _) Zo, zk4, Nat.and_two_pow_sub_one_eq_mod, Int.natCast_emod, Z2y hx.1]
theorem Zbq {x : Int} (i : Nat) (hx : 0 ≤ x) (h : x < ((2 ^ i : Nat) : Int)) (hi : i < 64) : Go.bits .or .u64 x (((2 ^ i : Nat) : Int)) = x + ((2 ^ i : Nat) : Int) := by
 have hp : (2 ^ i : Nat) < 18446744073709551616 := by
  have := Nat.pow_lt_pow_right (a := 2) Zd hi
  omega
 rw [u64_or x _ hx Zo (zk5 _) Zo, zk4, Nat.or_comm, nat_join i _ _ (Nat.mod_self _) Zo, Int.natCast_add, Z2y hx]
 omega
theorem Zaq {x y : Int} (i : Nat) (hx0 : 0 ≤ x) (hx1 : x < 18446744073709551616) (hx : x % ((2 ^ i : Nat) : Int) = 0) (hy0 : 0 ≤ y) (hy1 : y < 18446744073709551616) (h : y < ((2 ^ i : Nat) : Int)) : Go.bits .or .u64 x y = x + y := by
 have e : x.toNat % 2 ^ i = 0 := by
  have := Int.natCast_emod x.toNat (2 ^ i)
  rw [Z2y hx0] at this
  omega
 rw [u64_or x y hx0 hx1 hy0 hy1, nat_join i _ _ e Zo, Int.natCast_add, Z2y hx0, Z2y hy0]
theorem Z9l {x : Int} (hx : W64 x) : Go.bits .and .u64 x 9223372036854775808 = if x < 9223372036854775808 then 0 else 9223372036854775808 := by
 have h := Zap 63 hx Zd
 have e : ((2 ^ 63 : Nat) : Int) = 9223372036854775808 := by decide
 rw [e] at h; rw [h]; unfold W64 at hx
 split <;> omega
theorem Z9m {x : Int} (hx : W64 x) : Go.bits .and .u64 x 2047 = x % 2048 := by
 have h := Z4T 11 hx Zd
 have e : ((2 ^ 11 : Nat) : Int) = 2048 := by decide
 have e' : ((2 ^ 11 - 1 : Nat) : Int) = 2047 := by decide
 rw [e, e'] at h; exact h
theorem Z6A {x : Int} (hx : W64 x) : Go.bits .and .u64 x 4503599627370495 = x % 4503599627370496 := by
 have h := Z4T 52 hx Zd
 have e : ((2 ^ 52 : Nat) : Int) = 4503599627370496 := by decide
 have e' : ((2 ^ 52 - 1 : Nat) : Int) = 4503599627370495 := by decide
 rw [e, e'] at h; exact h
theorem Z7k {x : Int} (h0 : 0 ≤ x) (h1 : x < 9223372036854775808) : Go.bits .or .u64 x 9223372036854775808 = x + 9223372036854775808 := by
 have e : ((2 ^ 63 : Nat) : Int) = 9223372036854775808 := by decide
 have h := Zbq 63 h0 (by rw [e]; exact h1) Zd
 rw [e] at h; exact h
theorem Z74 {x : Int} (hx : W64 x) : Go.bits .andNot .u64 x 9223372036854775808 = x % 9223372036854775808 := by
 have h := Z4T 63 hx Zd
 have e : ((2 ^ 63 : Nat) : Int) = 9223372036854775808 := by decide
 have e' : ((2 ^ 63 - 1 : Nat) : Int) = 9223372036854775807 := by decide
 rw [e, e'] at h; rw [← h]
 rw [u64_andNot x _ hx.1 hx.2 Zd Zd, u64_and x _ hx.1 hx.2 Zd Zd]
 rfl
theorem Z9n {x : Int} (hx : W64 x) : Go.bits .xor .u64 x 9223372036854775808 = if x < 9223372036854775808 then x + 9223372036854775808 else x - 9223372036854775808 := by
 rw [u64_xor x _ hx.1 hx.2 Zd Zd]
 have hx0 := hx.1; have hx1 := hx.2
 obtain ⟨n, rfl⟩ := Int.eq_ofNat_of_zero_le hx0
 have e : (9223372036854775808 : Int).toNat = 2 ^ 63 := by decide
 rw [zk4, e]
 have hn : n < 2 ^ 64 := by omega
 have h2 : n ^^^ 2 ^ 63 = if n < 2 ^ 63 then n + 2 ^ 63 else n - 2 ^ 63 := by
  have hb : ∀ m : Nat, m < 2 ^ 63 → m ^^^ 2 ^ 63 = m + 2 ^ 63 := by
   intro m hm
   rw [Nat.xor_comm]
   have := Nat.two_pow_add_eq_or_of_lt hm 1
   rw [Nat.mul_one] at this
   rw [zkK, this]
   apply Nat.eq_of_testBit_eq
   intro i
   rw [Nat.testBit_xor, Nat.testBit_or]
   rw [Nat.testBit_two_pow]
   by_cases hi : 63 = i
   ·subst hi
    rw [Nat.testBit_lt_two_pow hm]; simp
   simp [hi]
  split
  ·rename_i h; exact hb n h
  rename_i h
  have := hb (n - 2 ^ 63) Zo
  have e2 : n - 2 ^ 63 + 2 ^ 63 = n := by omega
  rw [e2] at this
  have h3 : (n - 2 ^ 63) ^^^ 2 ^ 63 ^^^ 2 ^ 63 = n ^^^ 2 ^ 63 := by rw [this]
  rw [Nat.xor_assoc, Nat.xor_self, Nat.xor_zero] at h3
  exact h3.symm
 rw [h2]
 split <;> split <;> omega
def am (x : Int) : Int := x % 9223372036854775808
def Z7X (x : Int) : Prop := x % 9223372036854775808 ≤ 9218868437227405312
def Z2n (x : Int) : Prop := x % 9223372036854775808 < 9218868437227405312
instance (x : Int) : Decidable (Z7X x) := inferInstanceAs (Decidable (_ ≤ _))
instance (x : Int) : Decidable (Z2n x) := inferInstanceAs (Decidable (_ < _))
def ex (x : Int) : Int := x / 4503599627370496 % 2048
def fr (x : Int) : Int := x % 4503599627370496
def up (x : Int) : Int := if Z7X x then (if x = 9218868437227405312 then x else if x % 9223372036854775808 = 0 then 1 else if x < 9223372036854775808 then x + 1 else x - 1) else x
def ng (x : Int) : Int := if x < 9223372036854775808 then x + 9223372036854775808 else x - 9223372036854775808
def Z2J (x : Int) : Int := if Z7X x then (if x = 18442240474082181120 then x else if x % 9223372036854775808 = 0 then 9223372036854775809 else if x < 9223372036854775808 then x - 1 else x + 1) else x
def Zbr (x : Int) : Int × Int := if Z2n x then ((if ex x = 0 then 1 else ex x) - 1075, 0) else (0, 5)
def Z0i (x : Int) : Int := if ex x = 0 then fr x else fr x + 4503599627370496
def Z0Q (x : Int) : Int := if ex x = 0 then -1074 else ex x - 1075
def whole (x : Int) : Bool := decide (Z2n x ∧ (Z0i x = 0 ∨ Z0Q x ≥ 0 ∨ Z0i x % 2 ^ (-Z0Q x).toNat = 0))
def odd (x : Int) : Bool := whole x && decide (Z0Q x ≤ 0 ∧ Z0i x / 2 ^ (-Z0Q x).toNat % 2 = 1)
theorem Z5U {x : Int} (hx : W64 x) : Z1W.f x = some (am x) := by
 unfold Z1W.f am; rw [Z74 hx]
theorem Z8t {x : Int} (hx : W64 x) : Z3Q.f x = some (decide (Z2n x)) := by
 unfold Z3Q.f; rw [Z5U hx]; rfl
theorem Zbs {x : Int} (hx : W64 x) : Z2L.f x = some (ng x) := by
 unfold Z2L.f ng; rw [Z9n hx]
theorem Zbt {x : Int} (hx : W64 x) : Z2t.f x = some (am x) := by
 unfold Z2t.f; rw [Z5U hx]; rfl
theorem Z9o {x : Int} (hx : W64 x) : Z44.f x = some (decide (9223372036854775808 ≤ x), ex x, fr x) := by
 have h0 := hx.1; have h1 := hx.2
 unfold Z44.f; rw [Z9l hx, Z9m (by unfold W64; omega), Z6A hx, ZU Zo Zo]
 unfold ex fr
 by_cases h : x < 9223372036854775808
 ·rw [if_pos h]; simp; omega
 rw [if_neg h]; simp; omega
theorem Za0 {x : Int} (hx : W64 x) : 0 ≤ ex x ∧ ex x ≤ 2047 := by unfold ex; omega
theorem Zca {x : Int} (hx : W64 x) : 0 ≤ fr x ∧ fr x < 4503599627370496 := by unfold fr; omega
theorem Z8u {x : Int} (hx : W64 x) : Z2n x ↔ ex x < 2047 := by have := hx.1; have := hx.2; unfold Z2n ex; omega
theorem Z7a {x : Int} (hx : W64 x) : Z5T.f x = some (Zbr x) := by
 have b := Za0 hx
 unfold Z5T.f Zbr; rw [Z8t hx, Z9o hx]; simp only [Option.bind_some]
 by_cases h : Z2n x
 ·simp only [h, decide_true, if_true]; unfold mx
  rw [ZU (by split <;> omega) (by split <;> omega)]
  split <;> split <;> first | rfl | omega
 simp [h]
theorem Z7l {x : Int} (hx : W64 x) : 0 ≤ Z0i x ∧ Z0i x < 9007199254740992 := by
 have c := Zca hx; unfold Z0i; split <;> omega
theorem Z5B {x : Int} (hx : W64 x) (h : Z2n x) : -1074 ≤ Z0Q x ∧ Z0Q x ≤ 971 := by
 have b := Za0 hx; have := (Z8u hx).1 h; unfold Z0Q; split <;> omega
theorem pow_pos (a : Nat) : (0 : Int) < 2 ^ a := by
 have := Nat.two_pow_pos a
 exact_mod_cast this
theorem Z2Z {m : Int} {n : Nat} (hn : n < 64) : shr .u64 m n = m / 2 ^ n := by
 unfold shr
 have : min ((n : Int).toNat) IntKind.u64.bits = n := by
  simp [IntKind.bits]; omega
 rw [this]
end Go.Proofs.YtnjfckadjklmfaaDoor.Nb

namespace Go.Proofs.YtnjfckadjklmfaaDoor.Nm
set_option linter.unusedVariables false
theorem Z3E (l : List Int) (i : Nat) (h : i < l.length) : val (l.drop i) = (l.getD i 0).toNat + 18446744073709551616 * val (l.drop (i + 1)) := by
 rw [List.drop_eq_getElem_cons h, Z1P, List.getD_eq_getElem?_getD, List.getElem?_eq_getElem h]; rfl
end Go.Proofs.YtnjfckadjklmfaaDoor.Nm

namespace Go.Proofs.YtnjfckadjklmfaaDoor.Nf
open RowKit YtnjfckadjklmfaaDoor.PAll YtnjfckadjklmfaaDoorW.PrintWords YtnjfckadjklmfaaDoorW.PrintLast YtnjfckadjklmfaaDoorW.PrintMore YtnjfckadjklmfaaDoor.Nm
set_option linter.unusedVariables false
set_option linter.unusedSimpArgs false
theorem Z3K {x : Int} (h0 : 0 ≤ x) (h1 : x < 18446744073709551616) : IntKind.u64.wrap x = x := by
 rw [IntKind.wrap_u64]; omega
theorem ZU {x : Int} (h0 : -9223372036854775808 ≤ x) (h1 : x < 9223372036854775808) : wrap64 x = x := by
 unfold wrap64; omega
theorem Z0M (l : List Int) (j : Nat) : rd l (j : Int) = l.getD j 0 := by simp [rd]
theorem Zc {α β : Type} (a : α) (f : α → Option β) : (some a).bind f = f a := by simp
theorem Z5C (n : Nat) : ∀ (l : List Int) (k : Nat), l.length = n → Ws l → n < 4611686018427387904 → n < k → Z10.f k l = some (ofN (val l)) := by
 unfold Z10.f
 induction n with
 | zero =>
  intro l k hl hw hn hk
  obtain ⟨k, rfl⟩ : ∃ m, k = m + 1 := ⟨k - 1, by omega⟩
  obtain rfl := List.eq_nil_of_length_eq_zero hl
  simp [Z10.l0, val, Z0e]
 | succ n ih =>
  intro l k hl hw hn hk
  obtain ⟨k, rfl⟩ : ∃ m, k = m + 1 := ⟨k - 1, by omega⟩
  simp only [Z10.l0]
  have e : wrap64 ((l.length : Int) - 1) = (n : Int) := by rw [ZU Zo Zo]; omega
  rw [e, if_pos Zo, if_pos Zo, if_pos Zo, Z0M]
  have hv := Z0C l n Zo
  rw [ZP l (n + 1) Zo] at hv
  by_cases h : l.getD n 0 = 0
  ·rw [if_pos h, if_pos Zo, zk4, ih (l.take n) k (by rw [zkf]; omega) (Z3W hw n) Zo Zo]
   rw [h] at hv
   simp at hv; rw [hv]
  rw [if_neg h]
  congr 1
  refine Z8q hw ?_
  have hs : l = l.take n ++ [l.getD n 0] := by
   have := List.take_succ_eq_append_getElem (l := l) (i := n) Zo
   rw [List.take_of_length_le Zo] at this
   rw [List.getD_eq_getElem?_getD, List.getElem?_eq_getElem Zo]
   exact this
  rw [hs]; exact Z4M h
theorem Z9p (l : List Int) : Z0t.f l = some (decide (1024 < l.length)) := by
 unfold Z0t.f; congr 1; rw [zkm]; simp; omega
theorem Z5V (v : Nat) : Z0t.f (ofN v) = some (decide (¬ v < big)) := by
 have e : (1024 < (ofN v).length) ↔ ¬ v < big := by rw [← Z3v]; omega
 rw [Z9p, decide_eq_decide.2 e]
theorem Z3X (l : List Int) (k : Nat) (hw : Ws l) (hn : l.length < 4611686018427387904) (hk : l.length < k) :
  Z1r.f k l = some (if val l < big then (ofN (val l), 0) else ([], 3)) := by
 unfold Z1r.f; rw [Z5C _ l k rfl hw hn hk]; simp only [Zc]; rw [Z5V]; simp only [Zc]
 by_cases h : val l < big <;> simp [h]
theorem Z6B (l : List Int) (h : l.length < 17592186044416) : Z0Z.f l = some l := by
 unfold Z0Z.f; rw [if_pos (by simpa using h)]; rfl
theorem Z5W (v : Nat) : Z2m.f (ofN v) = some (if v < big then (ofN v, 0) else ([], 3)) := by
 unfold Z2m.f; rw [Z5V]; simp only [Zc]
 by_cases h : v < big
 ·have := (Z3v v).2 h
  rw [Z6B _ Zo]; simp [h]
 simp [h]
theorem Z9q (x y c : Int) : add64s x y c = (((x.toNat + y.toNat + c.toNat) % 18446744073709551616 : Nat) : Int) := rfl
theorem Zar (x y c : Int) : 0 ≤ add64s x y c := by rw [Z9q]; omega
theorem Zas (x y c : Int) : add64s x y c < 18446744073709551616 := by rw [Z9q]; omega
theorem Zcp (x y c : Int) : add64c x y c = (((x.toNat + y.toNat + c.toNat) / 18446744073709551616 : Nat) : Int) := rfl
theorem Zat {x y : Int} {c : Nat} (hx : x < 18446744073709551616) (hy : y < 18446744073709551616) (hc : c ≤ 1) : ∃ d : Nat, d ≤ 1 ∧ add64c x y c = d := ⟨_, by simp only [zk4]; omega, rfl⟩
theorem Z9r {P v w s c d x y : Nat} (h : s + 18446744073709551616 * d = x + y + c) : v + P * c + 0 + (P * x + P * y) = v + P * s + P * 18446744073709551616 * d := by
 have : P * (s + 18446744073709551616 * d) = P * (x + y + c) := by rw [h]
 rw [zkv, zkv, zkv, ← zkj] at this
 omega
theorem Z4b {P va vb vo c x y s d : Nat} (h : s + 18446744073709551616 * d = x + y + c) (e : vo + P * c = va + vb) : vo + P * s + P * 18446744073709551616 * d = va + P * x + (vb + P * y) := by
 have := Z9r (P := P) (v := vo) (w := 0) h
 omega
theorem Z5d {l : List Int} (h : ∀ x ∈ l, (Lit.int .u64 x).wf = true) : Ws l := by
 intro x hx
 have := h x hx
 simp [Lit.wf, IntKind.min, IntKind.max, IntKind.bits, IntKind.signed] at this
 omega
theorem Z2V (l : List Int) (i : Nat) : Z05.f l (i : Int) = some (l.getD i 0) := by
 unfold Z05.f
 by_cases h : i < l.length
 ·rw [if_pos Zo, if_pos Zo, Z0M]
 rw [if_neg Zo, Z2g _ _ Zo]
theorem Z4U {l : List Int} (hw : Ws l) {j : Nat} (hj : j < l.length) (h : l.getD j 0 ≠ 0) : l.take (j + 1) = ofN (val (l.take (j + 1))) := by
 refine Z8q (Z3W hw _) ?_
 rw [List.take_succ_eq_append_getElem hj]
 refine Z4M ?_
 rwa [List.getD_eq_getElem?_getD, List.getElem?_eq_getElem hj] at h
theorem Z7Y (l : List Int) (hw : Ws l) (hn : l.length < 17592186044416) (n : Nat) : ∀ k, n ≤ l.length → n < k → ZB.l0 k l n = some (ofN (val (l.take n))) := by
 induction n with
 | zero =>
  intro k hj hk
  obtain ⟨k, rfl⟩ : ∃ m, k = m + 1 := ⟨k - 1, by omega⟩
  simp only [ZB.l0]
  rw [if_neg Zo, if_pos Zo, if_pos Zo, if_pos (by simp)]
  simp [val, Z0e]
 | succ n ih =>
  intro k hj hk
  obtain ⟨k, rfl⟩ : ∃ m, k = m + 1 := ⟨k - 1, by omega⟩
  simp only [ZB.l0]
  have e : wrap64 (((n + 1 : Nat) : Int) - 1) = (n : Int) := by rw [ZU Zo Zo]; omega
  rw [e, if_pos Zo, if_pos Zo, if_pos Zo, Z0M]
  by_cases h : l.getD n 0 = 0
  ·rw [if_pos h, ih k Zo Zo, Z0C l n Zo, h]; simp
  rw [if_neg h, if_pos Zo, if_pos Zo, zk4, if_pos (by rw [zkf]; simp; omega), List.nil_append, ← Z4U hw Zo h]
theorem Z2O (l : List Int) (k : Nat) (hw : Ws l) (hn : l.length < 17592186044416) (hk : l.length < k) : ZB.f k l = some (ofN (val l)) := by
 unfold ZB.f
 rw [Z7Y l hw hn _ k (zka _) hk, ZP _ _ (zka _)]
theorem Z2d {l : List Int} (h : Ws l) (j : Nat) : val (l.take j) < 18446744073709551616 ^ j := by
 have a := Z20 (Z3W h j)
 refine zkn a (zkl Zd ?_)
 rw [zkf]; omega
theorem Z4o (a b : Nat) : mx (a : Int) (b : Int) = ((max a b : Nat) : Int) := by unfold mx; split <;> omega
theorem Z0N {j : Nat} (h : j < 4611686018427387904) : wrap64 ((j : Int) + 1) = ((j + 1 : Nat) : Int) := by rw [ZU Zo Zo]; omega
theorem Z36 (o : List Int) (w : Int) : val (o ++ [w]) = val o + 18446744073709551616 ^ o.length * w.toNat := by rw [Z45]; simp [val]
theorem Z8v (a b : List Int) (ha : Ws a) (hb : Ws b) (na : a.length < 17592186044000) (nb : b.length < 17592186044000) (r : Nat) : ∀ (j k : Nat) (o : List Int) (c : Nat), max a.length b.length - j = r → j ≤ max a.length b.length → r + max a.length b.length + 3 < k → o.length = j → Ws o → c ≤ 1 →
  val o + 18446744073709551616 ^ j * c = val (a.take j) + val (b.take j) →
  Z0b.l0 k a b o c j = some (ofN (val a + val b)) := by
 induction r with
 | zero =>
  intro j k o c hr hj hk ho hw hc hv
  obtain ⟨k, rfl⟩ : ∃ m, k = m + 1 := ⟨k - 1, by omega⟩
  obtain rfl : j = max a.length b.length := by omega
  simp only [Z0b.l0, Z4o]
  rw [if_neg Zo, if_pos Zo]
  rw [Z2O _ k (Z2U.2 ⟨hw, Z25.2 ⟨by omega, Z1B⟩⟩) (by simp; omega) (by simp; omega), Zc]
  rw [Z36, ho, zk4, hv, ZP _ _ Zo, ZP _ _ Zo]
 | succ r ih =>
  intro j k o c hr hj hk ho hw hc hv
  obtain ⟨k, rfl⟩ : ∃ m, k = m + 1 := ⟨k - 1, by omega⟩
  simp only [Z0b.l0, Z4o]
  have i1 : max a.length b.length - (j + 1) = r := by omega
  have i2 : j + 1 ≤ max a.length b.length := by omega
  have i3 : r + max a.length b.length + 3 < k := by omega
  have pa := Z0H ha j; have pb := Z0H hb j
  rw [if_pos Zo, Z2V, Z2V, Zc, Zc, Z0N Zo]
  have key : ∀ (s : Int) (d : Nat), 0 ≤ s → s < 18446744073709551616 → d ≤ 1 → s.toNat + 18446744073709551616 * d = (a.getD j 0).toNat + (b.getD j 0).toNat + c →
    Z0b.l0 k a b (o ++ [s]) d ((j + 1 : Nat) : Int) = some (ofN (val a + val b)) := by
   intro s d s0 s1 hd hs
   refine ih (j + 1) k _ d i1 i2 i3 (by simp [ho]) (Z2U.2 ⟨hw, Z25.2 ⟨⟨s0, s1⟩, Z1B⟩⟩) hd ?_
   rw [Z36, ho, Z0h a, Z0h b, zkp]
   exact Z4b hs hv
  generalize es : IntKind.u64.wrap (IntKind.u64.wrap (a.getD j 0 + b.getD j 0) + (c : Int)) = s
  have es' : s = (a.getD j 0 + b.getD j 0 + c) % 18446744073709551616 := by rw [← es, IntKind.wrap_u64, IntKind.wrap_u64]; omega
  have k0 := key s 0 Zo Zo Zo
  have k1 := key s 1 Zo Zo Zo
  have ho' : o.length < 17592186044416 := by omega
  by_cases h1 : s < a.getD j 0
  ·rw [if_pos h1, if_pos ho']; exact k1 Zo
  rw [if_neg h1]
  by_cases h2 : s = a.getD j 0
  ·rw [if_pos h2]
   by_cases h3 : (c : Int) = 1
   ·rw [if_pos h3]
    by_cases h4 : b.getD j 0 > 0
    ·rw [if_pos h4, if_pos ho']; exact k1 Zo
    rw [if_neg h4, if_pos ho']; exact k0 Zo
   rw [if_neg h3, if_pos ho']; exact k0 Zo
  rw [if_neg h2, if_pos ho']; exact k0 Zo
theorem Zau (a b : List Int) (k : Nat) (ha : Ws a) (hb : Ws b) (na : a.length < 17592186044000) (nb : b.length < 17592186044000) (hk : 2 * (a.length + b.length) + 3 < k) : Z0b.f k a b = some (ofN (val a + val b)) := by
 unfold Z0b.f
 exact Z8v a b ha hb na nb _ 0 k [] 0 rfl Zo Zo rfl Z1B Zo (by simp [val])
theorem Z8w (a b : List Int) (ha : Ws a) (hb : Ws b) (na : a.length < 17592186044000) (nb : b.length < 17592186044000) (hle : val b ≤ val a) (r : Nat) : ∀ (j k : Nat) (o : List Int) (c : Nat), max a.length b.length - j = r → j ≤ max a.length b.length → r + max a.length b.length + 3 < k → o.length = j → Ws o → c ≤ 1 →
  val (a.take j) + 18446744073709551616 ^ j * c = val o + val (b.take j) →
  Z08.l0 k a b o c j = some (ofN (val a - val b)) := by
 induction r with
 | zero =>
  intro j k o c hr hj hk ho hw hc hv
  obtain ⟨k, rfl⟩ : ∃ m, k = m + 1 := ⟨k - 1, by omega⟩
  obtain rfl : j = max a.length b.length := by omega
  simp only [Z08.l0, Z4o]
  rw [if_neg Zo, Z2O _ k hw Zo Zo, Zc]
  have := Z20 hw
  rw [ho] at this
  rw [ZP _ _ Zo, ZP _ _ Zo] at hv
  generalize 18446744073709551616 ^ max a.length b.length = p at *
  have : c = 0 := by
   rcases Nat.lt_or_ge c 1 with h | h
   ·omega
   have : c = 1 := by omega
   subst this; omega
  subst this
  rw [Nat.mul_zero] at hv
  congr 2; omega
 | succ r ih =>
  intro j k o c hr hj hk ho hw hc hv
  obtain ⟨k, rfl⟩ : ∃ m, k = m + 1 := ⟨k - 1, by omega⟩
  simp only [Z08.l0, Z4o]
  have i1 : max a.length b.length - (j + 1) = r := by omega
  have i2 : j + 1 ≤ max a.length b.length := by omega
  have i3 : r + max a.length b.length + 3 < k := by omega
  have pa := Z0H ha j; have pb := Z0H hb j
  rw [if_pos Zo, Z2V, Z2V, Zc, Zc, Z0N Zo]
  have key : ∀ (s : Int) (d : Nat), 0 ≤ s → s < 18446744073709551616 → d ≤ 1 → (a.getD j 0).toNat + 18446744073709551616 * d = s.toNat + (b.getD j 0).toNat + c →
    Z08.l0 k a b (o ++ [s]) d ((j + 1 : Nat) : Int) = some (ofN (val a - val b)) := by
   intro s d s0 s1 hd hs
   refine ih (j + 1) k _ d i1 i2 i3 (by simp [ho]) (Z2U.2 ⟨hw, Z25.2 ⟨⟨s0, s1⟩, Z1B⟩⟩) hd ?_
   rw [Z36, ho, Z0h a, Z0h b, zkp]
   exact Z4b hs hv
  generalize es : IntKind.u64.wrap (IntKind.u64.wrap (a.getD j 0 - b.getD j 0) - (c : Int)) = s
  have es' : s = (a.getD j 0 - b.getD j 0 - c) % 18446744073709551616 := by rw [← es, IntKind.wrap_u64, IntKind.wrap_u64]; omega
  have k0 := key s 0 Zo Zo Zo
  have k1 := key s 1 Zo Zo Zo
  have ho' : o.length < 17592186044416 := by omega
  by_cases h1 : a.getD j 0 < b.getD j 0
  ·rw [if_pos h1, if_pos ho']; exact k1 Zo
  rw [if_neg h1]
  by_cases h2 : a.getD j 0 = b.getD j 0
  ·rw [if_pos h2]
   by_cases h3 : (c : Int) = 1
   ·rw [if_pos h3, if_pos ho']; exact k1 Zo
   rw [if_neg h3, if_pos ho']; exact k0 Zo
  rw [if_neg h2, if_pos ho']; exact k0 Zo
theorem Z7m (a b : List Int) (k : Nat) (ha : Ws a) (hb : Ws b) (na : a.length < 17592186044000) (nb : b.length < 17592186044000) (hle : val b ≤ val a) (hk : 2 * (a.length + b.length) + 3 < k) : Z08.f k a b = some (ofN (val a - val b)) := by
 unfold Z08.f
 exact Z8w a b ha hb na nb hle _ 0 k [] 0 rfl Zo Zo rfl Z1B Zo (by simp [val])
theorem Z8x (a b : List Int) (ha : Ws a) (hb : Ws b) (j : Nat) : ∀ (k : Nat), j < 4611686018427387904 → j < k → Z0s.l0 k a b ((j : Int) - 1) = some (Z1E (val (a.take j)) (val (b.take j))) := by
 induction j with
 | zero =>
  intro k hj hk
  obtain ⟨k, rfl⟩ : ∃ m, k = m + 1 := ⟨k - 1, by omega⟩
  simp only [Z0s.l0]; rw [if_neg Zo]; simp [val, Z1E]
 | succ j ih =>
  intro k hj hk
  obtain ⟨k, rfl⟩ : ∃ m, k = m + 1 := ⟨k - 1, by omega⟩
  have e1 : ((j + 1 : Nat) : Int) - 1 = (j : Int) := by omega
  rw [e1]
  simp only [Z0s.l0]
  rw [if_pos Zo, Z2V, Z2V, Zc, Zc, ZU Zo Zo, ih k Zo Zo, Z0h, Z0h, Z6s (Z2d ha j) (Z2d hb j)]
  have p := Z0H ha j; have q := Z0H hb j
  by_cases h : a.getD j 0 < b.getD j 0
  ·rw [if_pos h, if_pos Zo]
  rw [if_neg h, if_neg (c := (a.getD j 0).toNat < (b.getD j 0).toNat) Zo]
  by_cases g : a.getD j 0 > b.getD j 0
  ·rw [if_pos g, if_pos Zo]
  rw [if_neg g, if_neg Zo]
theorem Zav (a b : List Int) (k : Nat) (ha : Ws a) (hb : Ws b) (na : a.length < 4611686018427387904) (nb : b.length < 4611686018427387904) (hk : a.length + b.length < k) : Z0s.f k a b = some (Z1E (val a) (val b)) := by
 unfold Z0s.f
 rw [Z4o, ZU Zo Zo, Z8x a b ha hb _ k Zo Zo, ZP _ _ Zo, ZP _ _ Zo]
theorem Z75 (l : List Int) (hw : Ws l) (hn : l.length < 4611686018427387904) (r : Nat) : ∀ (j k : Nat), l.length - j = r → j ≤ l.length → r < k →
  Z0a.l0 k ((ofN (val (l.take j))).length : Int) l l.length j = some (decide (1024 < (ofN (val l)).length)) := by
 induction r with
 | zero =>
  intro j k hr hj hk
  obtain ⟨k, rfl⟩ : ∃ m, k = m + 1 := ⟨k - 1, by omega⟩
  obtain rfl : j = l.length := by omega
  simp only [Z0a.l0]
  rw [if_neg Zo, ZP _ _ (zka _)]
  exact congrArg some (decide_eq_decide.2 Zo)
 | succ r ih =>
  intro j k hr hj hk
  obtain ⟨k, rfl⟩ : ∃ m, k = m + 1 := ⟨k - 1, by omega⟩
  simp only [Z0a.l0]
  have := ih (j + 1) k Zo Zo Zo
  rw [if_pos Zo, if_pos Zo, if_pos Zo, Z0M, Z0N Zo]
  by_cases h : l.getD j 0 = 0
  ·rw [if_pos h]
   rw [Z0h, h] at this
   simpa using this
  rw [if_neg h]
  rw [← Z4U hw Zo h, zkf, Nat.min_eq_left Zo] at this
  exact this
theorem Z8y (l : List Int) (k : Nat) (hw : Ws l) (hn : l.length < 4611686018427387904) (hk : l.length < k) : Z0a.f k l = some (decide (¬ val l < big)) := by
 unfold Z0a.f
 have := Z75 l hw hn _ 0 k rfl Zo Zo
 have e : (1024 < (ofN (val l)).length) ↔ ¬ val l < big := by rw [← Z3v]; omega
 have e0 : ((ofN (val (l.take 0))).length : Int) = 0 := by simp [val, Z0e]
 rw [e0] at this
 exact this.trans (congrArg some (decide_eq_decide.2 e))
theorem Zbu (x y c : Int) : sub64s x y c = (((x.toNat + 18446744073709551616 - y.toNat - c.toNat) % 18446744073709551616 : Nat) : Int) := rfl
theorem Zaw (x y c : Int) : 0 ≤ sub64s x y c := by rw [Zbu]; omega
theorem Zax (x y c : Int) : sub64s x y c < 18446744073709551616 := by rw [Zbu]; omega
theorem Z9s {m x y c : Nat} (hx : x < m) (hy : y < m) (hc : c ≤ 1) (h : x < y + c) : x + m * 1 = (x + m - y - c) % m + y + c := by
 rw [zkz Zo]; omega
theorem Z9t {m x y c : Nat} (hx : x < m) (hy : y < m) (hc : c ≤ 1) (h : ¬ x < y + c) : x + m * 0 = (x + m - y - c) % m + y + c := by
 have : x + m - y - c = (x - y - c) + m := by omega
 rw [this, Nat.add_mod_right, zkz Zo]; omega
theorem Z9u (x y : Int) (c : Nat) : (sub64s x y c).toNat = (x.toNat + 18446744073709551616 - y.toNat - c) % 18446744073709551616 := by unfold sub64s; rw [zk4, zk4]
theorem Z9v (x y : Int) (c : Nat) : sub64c x y c = if x.toNat < y.toNat + c then 1 else 0 := by unfold sub64c; rw [zk4]
theorem Z9w {x y : Int} {c : Nat} (x0 : 0 ≤ x) (x1 : x < 18446744073709551616) (y0 : 0 ≤ y) (y1 : y < 18446744073709551616) (hc : c ≤ 1) :
  ∃ d : Nat, d ≤ 1 ∧ sub64c x y c = d ∧ x.toNat + 18446744073709551616 * d = (sub64s x y c).toNat + y.toNat + c := by
 have hx : x.toNat < 18446744073709551616 := by omega
 have hy : y.toNat < 18446744073709551616 := by omega
 rw [Z9u, Z9v]
 by_cases h : x.toNat < y.toNat + c
 ·exact ⟨1, zka 1, if_pos h, Z9s hx hy hc h⟩
 exact ⟨0, zkC 1, if_neg h, Z9t hx hy hc h⟩
theorem Z2b {a b : Nat} (h : b ≤ a) : (ofN b).length ≤ (ofN a).length := by
 rcases Nat.lt_or_ge (ofN a).length (ofN b).length with g | g
 ·have := Z4Q g; omega
 exact g
theorem Z6C (n m : Nat) : (ofN n).length ≤ m + 1 ↔ n < 18446744073709551616 ^ m * 18446744073709551616 := by rw [Z1g, zkp]
theorem Z76 {p m a b : Nat} (hp : p = 18446744073709551616 ^ m) (ha : a < p) (hb : b < p) : (ofN (a + b)).length ≤ m + 1 := by
 refine (Z6C (a + b) m).2 ?_
 rw [← hp]; omega
theorem Z1Y {a : Nat} (ha : a < big) : (ofN a).length ≤ 1024 := (Z3v a).2 ha
theorem Z5e (s : Nat) : ((2 : Int) ^ s) = ((2 ^ s : Nat) : Int) := by simp
theorem Z4p (w s : Nat) (hs : s ≤ 64) : shl .u64 (w : Int) (s : Int) = ((w * 2 ^ s % 18446744073709551616 : Nat) : Int) := by
 unfold shl
 rw [zk4, Nat.min_eq_left (show s ≤ IntKind.u64.bits from hs), IntKind.wrap_u64, Z5e, ← Int.natCast_mul]; rfl
theorem Z2Z (w s : Nat) (hs : s ≤ 64) : shr .u64 (w : Int) (s : Int) = ((w / 2 ^ s : Nat) : Int) := by
 unfold shr
 rw [zk4, Nat.min_eq_left (show s ≤ IntKind.u64.bits from hs), Z5e]
 rfl
theorem Z0O {s : Nat} (hs : s ≤ 64) : 2 ^ s * 2 ^ (64 - s) = 18446744073709551616 := by
 rw [← zke, Nat.add_sub_cancel' hs]
theorem Z8z (a s c : Nat) (hc : c < 2 ^ s) : 2 ^ s * a ||| c = 2 ^ s * a + c := (Nat.two_pow_add_eq_or_of_lt hc a).symm
theorem Z2j {w s : Nat} (hs : s ≤ 64) : w * 2 ^ s % 18446744073709551616 = 2 ^ s * (w % 2 ^ (64 - s)) ∧ w * 2 ^ s = w * 2 ^ s % 18446744073709551616 + 18446744073709551616 * (w / 2 ^ (64 - s)) := by
 have e : w * 2 ^ s % 18446744073709551616 = 2 ^ s * (w % 2 ^ (64 - s)) := by
  rw [← Z0O hs, zkw w, Nat.mul_mod_mul_left]
 refine ⟨e, ?_⟩
 have := zkG w (2 ^ (64 - s))
 rw [e, ← Z0O hs, zkj, ← zkv, zkK, this, zkw]
theorem Zbv {w s c : Nat} (hs : s ≤ 64) (hc : c < 2 ^ s) : Go.bits .or .u64 (shl .u64 (w : Int) (s : Int)) (c : Int) = ((w * 2 ^ s % 18446744073709551616 + c : Nat) : Int) := by
 have h2 : 2 ^ s ≤ 18446744073709551616 := by rw [← Z0O hs]; exact zku _ (zkc Zd)
 rw [Z4p w s hs, u64_or_nat _ _ (zkH _ Zd) Zo, (Z2j hs).1, Z8z _ _ _ hc]
theorem Z5D {w s c : Nat} (hs : s ≤ 64) (hc : c < 2 ^ s) : Go.bits .or .u64 (c : Int) (shl .u64 (w : Int) (s : Int)) = ((w * 2 ^ s % 18446744073709551616 + c : Nat) : Int) := by
 have h2 : 2 ^ s ≤ 18446744073709551616 := by rw [← Z0O hs]; exact zku _ (zkc Zd)
 rw [Z4p w s hs, u64_or_nat _ _ Zo (zkH _ Zd), Nat.or_comm, (Z2j hs).1, Z8z _ _ _ hc]
theorem Z4q {w s c : Nat} (hs : s ≤ 64) (hc : c < 2 ^ s) : w * 2 ^ s % 18446744073709551616 + c < 18446744073709551616 := by
 rw [(Z2j hs).1]
 have : w % 2 ^ (64 - s) < 2 ^ (64 - s) := zkH _ (zkc Zd)
 have := Nat.mul_le_mul_left (2 ^ s) this
 rw [Z0O hs, Nat.mul_succ] at this
 omega
theorem Z4r {w s : Nat} (hs : s ≤ 64) (hw : w < 18446744073709551616) : w / 2 ^ (64 - s) < 2 ^ s := by
 rw [zkE (zkc Zd), Z0O hs]; exact hw
theorem Z4s (n : Nat) : 2 ^ n = 18446744073709551616 ^ (n / 64) * 2 ^ (n % 64) := by
 have e : 2 ^ n = 2 ^ (64 * (n / 64) + n % 64) := by rw [zkG]
 rw [e, zke, zkD]
theorem Z4V {P Q vo c V S w lo d B : Nat} (e : w * S = lo + B * d) (hv : vo + P * Q * c = P * (V * S)) : vo + P * Q * (lo + c) + P * Q * B * d = P * ((V + Q * w) * S) := by
 rw [Nat.add_mul, zkv P, ← hv, zkj Q w S, e, ← zkj P Q (lo + B * d), zkv, zkv, zkj (P * Q) B d]
 omega
theorem Z6D {a b : Nat} (h : a + b < 4611686018427387904) : wrap64 ((a : Int) + (b : Int)) = ((b + a : Nat) : Int) := by rw [ZU Zo Zo]; omega
theorem Z2o {x : Int} (h : 0 ≤ x) : x = ((x.toNat : Nat) : Int) := by omega
theorem Z8A (a : List Int) (ha : Ws a) (q s : Nat) (hs : s < 64) (na : a.length + q < 17592186044000) (r : Nat) : ∀ (j k : Nat) (o : List Int) (c : Nat), a.length - j = r → j ≤ a.length → r + a.length + q + 3 < k → o.length = q + j → Ws o → c < 2 ^ s →
  val o + 18446744073709551616 ^ (q + j) * c = 18446744073709551616 ^ q * (val (a.take j) * 2 ^ s) →
  Z01.l0 k o s c a a.length j = some (ofN (18446744073709551616 ^ q * (val a * 2 ^ s))) := by
 have h2 : 2 ^ s ≤ 18446744073709551616 := by rw [← Z0O (show s ≤ 64 by omega)]; exact zku _ (zkc Zd)
 induction r with
 | zero =>
  intro j k o c hr hj hk ho hw hc hv
  obtain ⟨k, rfl⟩ : ∃ m, k = m + 1 := ⟨k - 1, by omega⟩
  obtain rfl : j = a.length := by omega
  simp only [Z01.l0]
  rw [if_neg Zo, if_pos Zo, Z2O _ k (Z2U.2 ⟨hw, Z25.2 ⟨by omega, Z1B⟩⟩) (by simp; omega) (by simp; omega), Zc, Z36, ho, zk4, hv, ZP _ _ (zka _)]
 | succ r ih =>
  intro j k o c hr hj hk ho hw hc hv
  obtain ⟨k, rfl⟩ : ∃ m, k = m + 1 := ⟨k - 1, by omega⟩
  have i1 : a.length - (j + 1) = r := by omega
  have i2 : j + 1 ≤ a.length := by omega
  have i3 : r + a.length + q + 3 < k := by omega
  have i4 : o.length < 17592186044416 := by omega
  simp only [Z01.l0]
  rw [if_pos Zo, if_pos Zo, if_pos Zo, if_pos Zo, if_pos i4, Z0N Zo, Z0M]
  obtain ⟨p0, p1⟩ := Z0H ha j
  have ew := Z2o p0
  generalize hwn : (a.getD j 0).toNat = w at ew
  have w1 : w < 18446744073709551616 := by omega
  rw [ew, Zbv Zo hc, Zc]
  have key : ∀ d : Nat, d = w / 2 ^ (64 - s) → Z01.l0 k (o ++ [((w * 2 ^ s % 18446744073709551616 + c : Nat) : Int)]) s d a a.length ((j + 1 : Nat) : Int) = some (ofN (18446744073709551616 ^ q * (val a * 2 ^ s))) := by
   intro d hd
   have l1 := Z4q (w := w) (show s ≤ 64 by omega) hc
   have l2 : d < 2 ^ s := by rw [hd]; exact Z4r Zo w1
   refine ih (j + 1) k _ d i1 i2 i3 (by rw [List.length_append, ho]; rfl) (Z2U.2 ⟨hw, Z25.2 ⟨⟨zk5 _, by omega⟩, Z1B⟩⟩) l2 ?_
   rw [Z36, ho, Z0h a, hwn, zk4]
   have e := (Z2j (w := w) (s := s) Zo).2
   rw [← hd] at e
   rw [zke] at hv ⊢
   rw [zke, zkp, ← zkj]
   exact Z4V e hv
  by_cases h : (s : Int) > 0
  ·have e64 : IntKind.u64.wrap (64 - (s : Int)) = ((64 - s : Nat) : Int) := by rw [IntKind.wrap_u64]; omega
   rw [if_pos h, e64, if_pos Zo, Z2Z _ _ Zo]
   exact key _ rfl
  have : s = 0 := by omega
  rw [if_neg h]
  refine key 0 ?_
  subst this
  rw [zkA (show w < 2 ^ (64 - 0) from w1)]
theorem Z7n (a : List Int) (n : Nat) (k : Nat) (ha : Ws a) (hn : n < 4611686018427387904) (na : a.length + n / 64 < 17592186044000) (hk : 2 * a.length + n / 64 + 3 < k) : Z01.f k a n = some (ofN (val a * 2 ^ n)) := by
 unfold Z01.f
 have e1 : wrap64 (Int.tdiv (n : Int) 64) = ((n / 64 : Nat) : Int) := by
  rw [zko Zo, ZU Zo Zo]; omega
 have e2 : IntKind.u64.wrap (Int.tmod (n : Int) 64) = ((n % 64 : Nat) : Int) := by
  rw [zks Zo, IntKind.wrap_u64]; omega
 rw [e1, e2, zk4, if_pos Zo, if_pos Zo]
 have := Z8A a ha (n / 64) (n % 64) Zo Zo _ 0 k (List.replicate (n / 64) 0) 0 rfl Zo Zo (by simp) (Z1J _) (zkc Zd) (by rw [Z3o]; simp [val])
 rw [Z4s n, Nat.mul_left_comm]
 exact this
theorem Z6E (o : List Int) (i x y : Nat) (hi : i + 1 < o.length) : val (((o.set i (x : Int)).set (i + 1) (y : Int)).take (i + 2)) = val (o.take i) + 18446744073709551616 ^ i * x + 18446744073709551616 ^ (i + 1) * y := by
 rw [Z21 _ _ _ (by rw [zki]; exact hi), Z21 _ _ _ Zo, zk4, zk4]
theorem Z9x (a : List Int) (ha : Ws a) (q s : Nat) (hs : s < 64) (na : a.length + q < 35184372088000) (r : Nat) : ∀ (j k : Nat) (o : List Int) (c : Nat), a.length - j = r → j ≤ a.length → r + a.length + q + 3 < k → o.length = a.length + q + 1 → Ws o → c < 2 ^ s → o.getD (q + j) 0 = c → (∀ i, q + j < i → o.getD i 0 = 0) →
  val (o.take (q + j)) + 18446744073709551616 ^ (q + j) * c = 18446744073709551616 ^ q * (val (a.take j) * 2 ^ s) →
  ZG.l0 k q s o a a.length j = some (ofN (18446744073709551616 ^ q * (val a * 2 ^ s))) := by
 have h2 : 2 ^ s ≤ 18446744073709551616 := by rw [← Z0O (show s ≤ 64 by omega)]; exact zku _ (zkc Zd)
 induction r with
 | zero =>
  intro j k o c hr hj hk ho hw hc hg hz hv
  obtain ⟨k, rfl⟩ : ∃ m, k = m + 1 := ⟨k - 1, by omega⟩
  obtain rfl : j = a.length := by omega
  simp only [ZG.l0]
  rw [if_neg Zo, Z5C _ _ k rfl hw Zo Zo, Zc]
  have e := Z0C o (q + a.length) Zo
  rw [hg, zk4, hv, ZP _ _ Zo, ZP _ _ (zka _)] at e
  rw [e]
 | succ r ih =>
  intro j k o c hr hj hk ho hw hc hg hz
  obtain ⟨k, rfl⟩ : ∃ m, k = m + 1 := ⟨k - 1, by omega⟩
  have i1 : a.length - (j + 1) = r := by omega
  have i2 : j + 1 ≤ a.length := by omega
  have i3 : r + a.length + q + 3 < k := by omega
  have i4 : q + j + 1 < o.length := by omega
  have b1 : j + q < 4611686018427387904 := by omega
  have b2 : q + j < 4611686018427387904 := by omega
  have b3 : j < 4611686018427387904 := by omega
  have g1 : (j : Int) < (a.length : Int) := by omega
  have g2 : ((q + j : Nat) : Int) < (o.length : Int) := by omega
  have g3 : ((q + j + 1 : Nat) : Int) < (o.length : Int) := by omega
  have hs' : s ≤ 64 := by omega
  have l0 : 2 ^ s ≤ 18446744073709551616 := h2
  have hz' : ∀ i, q + (j + 1) < i → q + j < i ∧ q + j + 1 ≠ i ∧ q + j ≠ i := fun i hi => by omega
  have hq1 : q + j < q + j + 1 := by omega
  intro hv
  simp only [ZG.l0]
  rw [if_pos g1, if_pos (zk5 _), if_pos g1, Z6D b1, Z0N b2, if_pos (zk5 _), if_pos g2, if_pos (zk5 _), Z0N b3]
  simp only [Z0M, zk4]
  obtain ⟨p0, p1⟩ := Z0H ha j
  have ew := Z2o p0
  generalize hwn : (a.getD j 0).toNat = w at ew
  have w1 : w < 18446744073709551616 := zkt.1 (ew ▸ p1)
  rw [ew, hg, Z5D hs' hc, Zc]
  have l1 := Z4q (w := w) hs' hc
  have e := (Z2j (w := w) (s := s) hs').2
  have key : ∀ d : Nat, d = w / 2 ^ (64 - s) → ZG.l0 k q s ((o.set (q + j) ((w * 2 ^ s % 18446744073709551616 + c : Nat) : Int)).set (q + j + 1) (d : Int)) a a.length ((j + 1 : Nat) : Int) = some (ofN (18446744073709551616 ^ q * (val a * 2 ^ s))) := by
   intro d hd
   have l2 : d < 2 ^ s := by rw [hd]; exact Z4r hs' w1
   refine ih (j + 1) k _ d i1 i2 i3 (by rw [zki, zki]; exact ho) (Z2Y (Z2Y hw _ (zk5 _) (zkt.2 l1)) _ (zk5 _) (zkt.2 (zkn l2 h2))) l2 ?_ ?_ ?_
   ·exact Nm.Z2q _ _ _ (by rw [zki]; exact i4)
   ·intro i hi
    obtain ⟨z1, z2, z3⟩ := hz' i hi
    rw [Nm.Z1V _ _ _ _ z2, Nm.Z1V _ _ _ _ z3]
    exact hz i z1
   rw [← hd] at e
   have := Z0C ((o.set (q + j) ((w * 2 ^ s % 18446744073709551616 + c : Nat) : Int)).set (q + j + 1) (d : Int)) (q + j + 1) (by rw [zki, zki]; exact i4)
   rw [Z6E _ _ _ _ i4, Nm.Z2q _ _ _ (by rw [zki]; exact i4), zk4] at this
   have e3 : q + (j + 1) = q + j + 1 := rfl
   rw [e3]
   rw [← this, Z0h a, hwn, zkp, zke]
   rw [zke] at hv
   exact Z4V e hv
  by_cases h : (s : Int) > 0
  ·have hs64 : 64 - s ≤ 64 := by omega
   have e64 : wrap64 (64 - (s : Int)) = ((64 - s : Nat) : Int) := by rw [ZU Zo Zo]; omega
   rw [if_pos h, e64, if_pos (zk5 _), if_pos (zk5 _), if_pos g3, Z2Z _ _ hs64]
   exact key _ rfl
  have : s = 0 := by omega
  rw [if_neg h]
  have k0 := key 0 (by subst this; rw [zkA (show w < 2 ^ (64 - 0) from w1)])
  have same : ((o.set (q + j) ((w * 2 ^ s % 18446744073709551616 + c : Nat) : Int)).set (q + j + 1) ((0 : Nat) : Int)) = o.set (q + j) ((w * 2 ^ s % 18446744073709551616 + c : Nat) : Int) := by
   have h0 := hz (q + j + 1) hq1
   refine List.ext_getElem (by simp) fun i g1 g2 => ?_
   by_cases hi : i = q + j + 1
   ·subst hi
    rw [List.getElem_set_self, List.getElem_set_ne Zo]
    rw [List.getD_eq_getElem?_getD, List.getElem?_eq_getElem i4] at h0
    exact h0.symm
   rw [List.getElem_set_ne Zo]
  rw [same] at k0
  exact k0
theorem Z6F {w w' s : Nat} (h0 : 0 < s) (hs : s < 64) (hw : w < 18446744073709551616) : Go.bits .or .u64 ((w / 2 ^ s : Nat) : Int) (shl .u64 (w' : Int) ((64 - s : Nat) : Int)) = ((w / 2 ^ s + 2 ^ (64 - s) * (w' % 2 ^ s) : Nat) : Int) := by
 have hc : w / 2 ^ s < 2 ^ (64 - s) := by
  rw [zkE (zkc Zd), zkw, Z0O (show s ≤ 64 by omega)]; exact hw
 rw [Z5D (show 64 - s ≤ 64 by omega) hc, (Z2j (w := w') (s := 64 - s) Zo).1]
 have e : 64 - (64 - s) = s := by omega
 rw [e, zkK]
theorem Z3R {w c s : Nat} (hs : s ≤ 64) (hw : w < 18446744073709551616) : w / 2 ^ s + 2 ^ (64 - s) * (c % 2 ^ s) < 18446744073709551616 := by
 have h1 : w / 2 ^ s < 2 ^ (64 - s) := by
  rw [zkE (zkc Zd), zkw, Z0O hs]; exact hw
 have h2 : c % 2 ^ s < 2 ^ s := zkH _ (zkc Zd)
 have h3 := Nat.mul_le_mul_left (2 ^ (64 - s)) h2
 rw [Nat.mul_succ, zkw _ (2 ^ s), Z0O hs] at h3
 omega
theorem Zay {w c s : Nat} (hs : s ≤ 64) : (w + 18446744073709551616 * c) % 2 ^ s = w % 2 ^ s := by
 rw [← Z0O hs, zkj, Nat.add_mul_mod_self_left]
theorem Zaz (l : List Int) {s : Nat} (hs : s ≤ 64) : val l % 2 ^ s = (l.getD 0 0).toNat % 2 ^ s := by
 cases l with
 | nil => simp [val]
 | cons w l => rw [Z1P, Zay hs]; rfl
theorem Z4t (l : List Int) (q j : Nat) : (l.drop q).getD j 0 = l.getD (j + q) 0 := by
 rw [List.getD_eq_getElem?_getD, List.getD_eq_getElem?_getD, List.getElem?_drop, zkK]
theorem Z4u {a : List Int} (ha : Ws a) {q s : Nat} (hs : s < 64) (hq : q ≤ a.length) :
  val a / 2 ^ (64 * q + s) = val (a.drop q) / 2 ^ s ∧ (val a % 2 ^ (64 * q + s) ≠ 0 ↔ val (a.take q) ≠ 0 ∨ (a.getD q 0).toNat % 2 ^ s ≠ 0) := by
 have e : 2 ^ (64 * q + s) = 18446744073709551616 ^ q * 2 ^ s := by rw [zke, zkD]
 have ht := Z2d ha q
 obtain ⟨h1, h2⟩ := Z7g (S := 2 ^ s) ht (Z2G a q hq)
 rw [e, h1, h2, Zaz _ Zo, Z4t, zkF]
 refine ⟨rfl, ?_⟩
 have hp := pow_pos q
 constructor
 ·intro h
  by_cases g : val (a.take q) = 0
  ·right; intro z; rw [g, z] at h; exact h rfl
  exact .inl g
 rintro (h | h)
 ·omega
 have : 0 < 18446744073709551616 ^ q * ((a.getD q 0).toNat % 2 ^ s) := zkx hp Zo
 omega
theorem Z9y {w s : Nat} (hs : s < 64) (hw : w < 18446744073709551616) : (Go.bits .and .u64 (w : Int) (IntKind.u64.wrap ((shl .u64 1 (s : Int)) - 1)) != 0) = decide (w % 2 ^ s ≠ 0) := by
 have h1 : shl .u64 1 (s : Int) = ((2 ^ s : Nat) : Int) := by
  have := Z4p 1 s Zo
  rw [Nat.one_mul, zkz (Nat.pow_lt_pow_right Zd hs : 2 ^ s < 2 ^ 64)] at this
  exact this
 have h2 : 2 ^ s < 18446744073709551616 := (Nat.pow_lt_pow_right Zd hs : 2 ^ s < 2 ^ 64)
 have h3 : 0 < 2 ^ s := zkc Zd
 have h4 : IntKind.u64.wrap (((2 ^ s : Nat) : Int) - 1) = ((2 ^ s - 1 : Nat) : Int) := by
  generalize 2 ^ s = p at *
  rw [IntKind.wrap_u64]; omega
 rw [h1, h4, u64_and_nat _ _ hw Zo, Nat.and_two_pow_sub_one_eq_mod]
 rw [zkm]; simp only [bne_iff_ne, decide_eq_true_eq]
 generalize w % 2 ^ s = z; omega
theorem Z9z {w s : Nat} (h0 : 0 < s) (hs : s < 64) : ((shl .u64 (w : Int) ((64 - s : Nat) : Int)) != 0) = decide (w % 2 ^ s ≠ 0) := by
 rw [Z4p _ _ Zo, (Z2j (w := w) (s := 64 - s) Zo).1]
 have e : 64 - (64 - s) = s := by omega
 rw [e]
 have hp : 0 < 2 ^ (64 - s) := zkc Zd
 rw [zkm]
 by_cases h : w % 2 ^ s = 0
 ·simp [h]
 have := zkx hp (show 0 < w % 2 ^ s by omega)
 simp only [bne_iff_ne, decide_eq_true_eq]
 constructor
 ·intro _; exact h
 intro _ g; omega
theorem ZaA (a : List Int) (ha : Ws a) (q s : Nat) (hs : s < 64) (lost : Bool) (hq : q < a.length) (na : a.length < 1152921504606846976) (r : Nat) : ∀ (j k : Nat) (o : List Int), a.length - q - j = r → j ≤ a.length - q → r + a.length + 3 < k → o.length = a.length - q → Ws o →
  2 ^ s * val (o.take j) + (a.getD q 0).toNat % 2 ^ s = val ((a.drop q).take j) + 18446744073709551616 ^ j * ((a.getD (j + q) 0).toNat % 2 ^ s) →
  Zr.l1 k a q s lost o ((a.length - q : Nat) : Int) j = some (ofN (val (a.drop q) / 2 ^ s), lost) := by
 induction r with
 | zero =>
  intro j k o hr hj hk ho hw hv
  obtain ⟨k, rfl⟩ : ∃ m, k = m + 1 := ⟨k - 1, by omega⟩
  obtain rfl : j = a.length - q := by omega
  simp only [Zr.l1]
  rw [if_neg Zo, Z5C _ _ k rfl hw Zo Zo, Zc]
  rw [Z2g a (a.length - q + q) Zo, ZP o _ Zo, ZP (a.drop q) _ (by rw [zkk]; omega)] at hv
  have h0 : (a.getD q 0).toNat % 2 ^ s < 2 ^ s := zkH _ (zkc Zd)
  have := (Z5A h0 (show 2 ^ s * val o + (a.getD q 0).toNat % 2 ^ s = val (a.drop q) by rw [hv]; simp)).1
  rw [this]
 | succ r ih =>
  intro j k o hr hj hk ho hw hv
  obtain ⟨k, rfl⟩ : ∃ m, k = m + 1 := ⟨k - 1, by omega⟩
  have i1 : a.length - q - (j + 1) = r := by omega
  have i2 : j + 1 ≤ a.length - q := by omega
  have i3 : r + a.length + 3 < k := by omega
  have i4 : j < o.length := by omega
  have g1 : (j : Int) < ((a.length - q : Nat) : Int) := by omega
  have g2 : ((q + j : Nat) : Int) < (a.length : Int) := by omega
  have g3 : (j : Int) < (o.length : Int) := by omega
  have g4 : ((q + j + 1 : Nat) : Int) < (a.length : Int) ↔ q + j + 1 < a.length := by omega
  have b1 : j + q < 4611686018427387904 := by omega
  have b2 : q + j < 4611686018427387904 := by omega
  have b3 : j < 4611686018427387904 := by omega
  have hs' : s ≤ 64 := by omega
  have hs6 : 64 - s ≤ 64 := by omega
  have e1 : j + 1 + q = q + j + 1 := by omega
  have e2 : j + q = q + j := by omega
  have hsp : (s : Int) > 0 ↔ 0 < s := by omega
  have hs1 : -9223372036854775808 ≤ (64 : Int) - (s : Int) := by omega
  have hs2 : (64 : Int) - (s : Int) < 9223372036854775808 := by omega
  have hs3 : (64 : Int) - (s : Int) = ((64 - s : Nat) : Int) := by omega
  have hs0 : ¬ 0 < s → s = 0 := by omega
  have hge : ¬ q + j + 1 < a.length → a.length ≤ q + j + 1 := by omega
  simp only [Zr.l1]
  rw [if_pos g1, Z6D b1, if_pos (zk5 _), if_pos g2, if_pos (zk5 _), if_pos (zk5 _), if_pos g3, Z0N b2, Z0N b3, Zc]
  simp only [Z0M, zk4]
  obtain ⟨p0, p1⟩ := Z0H ha (q + j)
  obtain ⟨p2, p3⟩ := Z0H ha (q + j + 1)
  have ew := Z2o p0
  have ew' := Z2o p2
  generalize hwn : (a.getD (q + j) 0).toNat = w at ew
  generalize hwn' : (a.getD (q + j + 1) 0).toNat = w' at ew'
  have w1 : w < 18446744073709551616 := zkt.1 (ew ▸ p1)
  rw [ew, Z2Z _ _ hs', Nm.Z2q _ _ _ i4, List.set_set]
  have key : ∀ v : Nat, v = w / 2 ^ s + 2 ^ (64 - s) * (w' % 2 ^ s) → Zr.l1 k a q s lost (o.set j (v : Int)) ((a.length - q : Nat) : Int) ((j + 1 : Nat) : Int) = some (ofN (val (a.drop q) / 2 ^ s), lost) := by
   intro v hv2
   have l1 : v < 18446744073709551616 := by rw [hv2]; exact Z3R hs' w1
   refine ih (j + 1) k _ i1 i2 i3 (by rw [zki]; exact ho) (Z2Y hw _ (zk5 _) (zkt.2 l1)) ?_
   rw [Z21 o j _ i4, Z0h, Z4t, e1, e2, hwn', hwn, zk4, zkp]
   rw [e2, hwn] at hv
   exact Z4R (Z0O hs') hv2 hv
  by_cases h : 0 < s
  ·rw [if_pos (hsp.2 h)]
   by_cases g : q + j + 1 < a.length
   ·rw [if_pos (g4.2 g), if_pos (zk5 _), ZU hs1 hs2, hs3, if_pos (zk5 _), ew', Z6F h hs w1]
    exact key _ rfl
   rw [if_neg (fun x => g (g4.1 x))]
   refine key _ ?_
   rw [Z2g a _ (hge g)] at hwn'
   have : w' = 0 := hwn'.symm
   rw [this]; simp
  have h00 := hs0 h
  rw [if_neg (fun x => h (hsp.1 x))]
  refine key _ ?_
  rw [h00]; simp [Nat.mod_one]
theorem Z5X {x : Int} (h : 0 ≤ x) : (x != 0) = decide (x.toNat ≠ 0) := by rw [zkm]; simp; omega
theorem Z7o (lost : Bool) (a b : Nat) : (lost || decide (a + 18446744073709551616 * b ≠ 0)) = ((lost || decide (a ≠ 0)) || decide (b ≠ 0)) := by
 rw [zkm]
 cases lost <;> simp
 omega
theorem ZaB (a : List Int) (ha : Ws a) (q s : Nat) (hs : s < 64) (hq : q < a.length) (na : a.length < 35184372088832) (r : Nat) : ∀ (j k : Nat) (lost : Bool), q - j = r → j ≤ q → r + 2 * a.length + 5 < k →
  Zr.l0 k a q s lost (a.take q) q j = some (ofN (val (a.drop q) / 2 ^ s), lost || decide (val ((a.take q).drop j) ≠ 0)) := by
 have hl : (a.take q).length = q := by rw [zkf]; omega
 induction r with
 | zero =>
  intro j k lost hr hj hk
  obtain ⟨k, rfl⟩ : ∃ m, k = m + 1 := ⟨k - 1, by omega⟩
  obtain rfl : j = q := by omega
  have e : wrap64 ((a.length : Int) - (j : Int)) = ((a.length - j : Nat) : Int) := by rw [ZU Zo Zo]; omega
  have hv : val ((a.take j).drop j) = 0 := by
   rw [List.drop_eq_nil_of_le Zo]; rfl
  have := ZaA a ha j s hs lost hq Zo _ 0 k (List.replicate (a.length - j) 0) rfl Zo Zo (by simp) (Z1J _) (by simp [val])
  simp only [Zr.l0]
  rw [e, if_neg Zo, if_pos Zo, if_pos (by rw [zk4]; omega), Zc, zk4, List.length_replicate, hv]
  simpa using this
 | succ r ih =>
  intro j k lost hr hj hk
  obtain ⟨k, rfl⟩ : ∃ m, k = m + 1 := ⟨k - 1, by omega⟩
  have b3 : j < 4611686018427387904 := by omega
  have hd := Z3E (a.take q) j Zo
  obtain ⟨p0, p1⟩ := Z0H (Z3W ha q) j
  have i1 : q - (j + 1) = r := by omega
  have i2 : j + 1 ≤ q := by omega
  have i3 : r + 2 * a.length + 5 < k := by omega
  simp only [Zr.l0]
  rw [if_pos Zo, if_pos Zo, if_pos Zo, Z0N b3, Z0M, ih _ k _ i1 i2 i3, ih _ k _ i1 i2 i3, hd, Z7o, Z5X p0]
  cases lost <;> simp
theorem ZaC (a : List Int) (n k : Nat) (ha : Ws a) (hn : n < 9223372036854775808) (na : a.length < 35184372088832) (hz : val a = 0 → a = []) (hk : 3 * a.length + 10 < k) :
  Zr.f k a n = some (ofN (val a / 2 ^ n), decide (val a % 2 ^ n ≠ 0)) := by
 unfold Zr.f
 have e1 : wrap64 (Int.tdiv (n : Int) 64) = ((n / 64 : Nat) : Int) := by
  rw [zko Zo, ZU Zo Zo]; omega
 have e2 : Int.tmod (n : Int) 64 = ((n % 64 : Nat) : Int) := by
  rw [zks Zo]; omega
 have en : n = 64 * (n / 64) + n % 64 := by omega
 have hs : n % 64 < 64 := by omega
 rw [e1, e2]
 generalize n / 64 = q at *
 generalize n % 64 = s at *
 by_cases h : a.length ≤ q
 ·rw [if_pos Zo]
  have h1 : val a < 2 ^ n := by
   refine zkn (Z20 ha) ?_
   have e : 18446744073709551616 ^ a.length = 2 ^ (64 * a.length) := by rw [zkD]
   rw [e]; exact zkl Zd Zo
  rw [zkA h1, zkz h1, Z0e]
  congr 2
  rw [decide_eq_decide]
  constructor
  ·intro g z; rw [hz z] at g; simp at g
  intro g
  have : a ≠ [] := fun z => g (by rw [z]; rfl)
  have := List.length_pos_iff.2 this
  omega
 have c1 : ¬ ((q : Int) ≥ (a.length : Int)) := by omega
 have c2 : (q : Int) < (a.length : Int) := by omega
 have c3 : (q : Int) ≤ (a.length : Int) := by omega
 have c4 : max (q : Int) 0 = (q : Int) := by omega
 have c5 : q < a.length := by omega
 have c6 : q + 2 * a.length + 5 < k := by omega
 rw [if_neg c1, if_pos (zk5 _), if_pos c2, if_pos (zk5 _), if_pos c3, c4, Z0M, zk4]
 obtain ⟨p0, p1⟩ := Z0H ha q
 have ew := Z2o p0
 obtain ⟨h1, h2⟩ := Z4u ha hs (zky c5)
 generalize hwn : (a.getD q 0).toNat = w at *
 have w1 : w < 18446744073709551616 := zkt.1 (ew ▸ p1)
 rw [ew, Z9y hs w1]
 have := ZaB a ha q s hs c5 na _ 0 k (decide (w % 2 ^ s ≠ 0)) rfl (zkC _) c6
 rw [List.drop_zero] at this
 rw [en, h1]
 refine this.trans ?_
 congr 2
 rw [zkm, Bool.or_eq_true, decide_eq_true_eq, decide_eq_true_eq, decide_eq_true_eq, h2, Or.comm]
theorem Z8B (w : Nat) : ∀ (m k : Nat), w < 18446744073709551616 → m + bl w < 4611686018427387904 → bl w < k → Z0g.l0 k m w = some ((m + bl w : Nat) : Int) := by
 induction w using Nat.strongRecOn with
 | _ w ih =>
  intro m k hw hm hk
  obtain ⟨k, rfl⟩ : ∃ z, k = z + 1 := ⟨k - 1, by omega⟩
  simp only [Z0g.l0]
  by_cases h : w = 0
  ·subst h; rw [if_neg Zo, Z1X]; rfl
  rw [Z6t h] at hm hk ⊢
  have e : IntKind.u64.wrap (Int.tdiv (w : Int) 2) = ((w / 2 : Nat) : Int) := by
   rw [zko Zo, Z3K Zo Zo]; omega
  rw [if_pos Zo, Z0N Zo, e, ih (w / 2) Zo (m + 1) k Zo Zo Zo]
  congr 2; omega
theorem Z5E {w : Nat} (h : w < 18446744073709551616) : bl w ≤ 64 := Z1K.2 h
theorem Z9A {v : Nat} (h : v ≠ 0) : ∃ m t w : Nat, (ofN v).length = m + 1 ∧ v = t + 18446744073709551616 ^ m * w ∧ t < 18446744073709551616 ^ m ∧ w ≠ 0 ∧ w < 18446744073709551616 ∧ (ofN v).getD m 0 = (w : Int) := by
 have hl : ofN v ≠ [] := fun z => h (Z6u.1 z)
 have hp := List.length_pos_iff.2 hl
 obtain ⟨m, hm⟩ : ∃ m, (ofN v).length = m + 1 := ⟨(ofN v).length - 1, by omega⟩
 have hv := Z0C (ofN v) m Zo
 rw [ZP _ _ Zo, Zy] at hv
 obtain ⟨p0, p1⟩ := Z0H (ZT v) m
 have ht := Z2d (ZT v) m
 refine ⟨m, _, ((ofN v).getD m 0).toNat, hm, hv, ht, ?_, by omega, by omega⟩
 intro z
 rw [z, Nat.mul_zero, Nat.add_zero] at hv
 have := (Z1g v m).2 Zo
 omega
theorem Z6G {v : Nat} (h : v ≠ 0) : ∃ m w : Nat, (ofN v).length = m + 1 ∧ bl v = 64 * m + bl w ∧ w ≠ 0 ∧ w < 18446744073709551616 ∧ (ofN v).getD m 0 = (w : Int) := by
 obtain ⟨m, t, w, h1, h2, h3, h4, h5, h6⟩ := Z9A h
 refine ⟨m, w, h1, ?_, h4, h5, h6⟩
 rw [h2, Zbn h3 h4]
theorem Z5F (a : List Int) (k : Nat) (ha : Ws a) (na : a.length < 17592186044000) (hk : a.length + 100 < k) : Z0g.f k a = some ((bl (val a) : Nat) : Int) := by
 unfold Z0g.f
 have hlen : (ofN (val a)).length ≤ a.length := (Z1g _ _).2 (Z20 ha)
 rw [Z2O a k ha Zo Zo, Zc]
 by_cases h : val a = 0
 ·rw [h, Z0e, Z1X]; rfl
 obtain ⟨m, w, h1, h2, h3, h4, h5⟩ := Z6G h
 have hb := Z5E h4
 have e1 : wrap64 (((ofN (val a)).length : Int) - 1) = (m : Int) := by rw [ZU Zo Zo]; omega
 have e2 : wrap64 (64 * (m : Int)) = ((64 * m : Nat) : Int) := by rw [ZU Zo Zo]; omega
 have hk2 : bl w < k := by omega
 have hm : 64 * m + bl w < 4611686018427387904 := by omega
 rw [if_neg Zo, e1, e2, if_pos Zo, if_pos Zo, Z0M, h5, Z8B w _ k h4 hm hk2, h2]
theorem ZaD (a : List Int) (ha : Ws a) (q s : Nat) (n : Int) (hn : wrap64 (Int.tdiv n 64) = (q : Int)) (hs : s < 64) (lost : Bool) (hq : q < a.length) (na : a.length < 17592186044000) (r : Nat) : ∀ (j k : Nat) (o : List Int), a.length - q - j = r → j ≤ a.length - q → r + a.length + 3 < k → o.length = j → Ws o →
  2 ^ s * val o + (a.getD q 0).toNat % 2 ^ s = val ((a.drop q).take j) + 18446744073709551616 ^ j * ((a.getD (j + q) 0).toNat % 2 ^ s) →
  ZS.l1 k a n lost s o ((j + q : Nat) : Int) = some (ofN (val (a.drop q) / 2 ^ s), lost || decide ((a.getD q 0).toNat % 2 ^ s ≠ 0)) := by
 induction r with
 | zero =>
  intro j k o hr hj hk ho hw hv
  obtain ⟨k, rfl⟩ : ∃ m, k = m + 1 := ⟨k - 1, by omega⟩
  obtain rfl : j = a.length - q := by omega
  have f1 := Z2O o k hw Zo Zo
  have c1 : ¬ (((a.length - q + q : Nat) : Int) < (a.length : Int)) := by omega
  have c2 : (q : Int) < (a.length : Int) := by omega
  have hsp : (s : Int) > 0 ↔ 0 < s := by omega
  have hs3 : IntKind.u64.wrap (64 - (s : Int)) = ((64 - s : Nat) : Int) := by rw [IntKind.wrap_u64]; omega
  have hs0 : ¬ 0 < s → s = 0 := by omega
  rw [Z2g a (a.length - q + q) Zo, ZP (a.drop q) _ (by rw [zkk]; omega)] at hv
  have h0 : (a.getD q 0).toNat % 2 ^ s < 2 ^ s := zkH _ (zkc Zd)
  have h1 := (Z5A h0 (show 2 ^ s * val o + (a.getD q 0).toNat % 2 ^ s = val (a.drop q) by rw [hv]; simp)).1
  simp only [ZS.l1]
  rw [if_neg c1, hn, hs3, if_pos (zk5 _), if_pos c2, if_pos (zk5 _), f1, Zc, Zc, Zc, h1, Z0M]
  by_cases h : 0 < s
  ·rw [if_pos (hsp.2 h)]
   obtain ⟨p0, p1⟩ := Z0H ha q
   have ew := Z2o p0
   generalize hwn : (a.getD q 0).toNat = w at *
   rw [ew, Z9z h hs]
   cases lost <;> simp
  rw [if_neg (fun x => h (hsp.1 x)), hs0 h]
  simp [Nat.mod_one]
 | succ r ih =>
  intro j k o hr hj hk ho hw hv
  obtain ⟨k, rfl⟩ : ∃ m, k = m + 1 := ⟨k - 1, by omega⟩
  have i1 : a.length - q - (j + 1) = r := by omega
  have i2 : j + 1 ≤ a.length - q := by omega
  have i3 : r + a.length + 3 < k := by omega
  have i4 : o.length < 17592186044416 := by omega
  have g2 : ((j + q : Nat) : Int) < (a.length : Int) := by omega
  have b2 : j + q < 4611686018427387904 := by omega
  have hs' : s ≤ 64 := by omega
  have hs6 : 64 - s ≤ 64 := by omega
  have e1 : j + 1 + q = j + q + 1 := by omega
  have hsp : (s : Int) > 0 ↔ 0 < s := by omega
  have hs3 : IntKind.u64.wrap (64 - (s : Int)) = ((64 - s : Nat) : Int) := by rw [IntKind.wrap_u64]; omega
  have hs0 : ¬ 0 < s → s = 0 := by omega
  simp only [ZS.l1]
  rw [if_pos g2, if_pos (zk5 _), if_pos (zk5 _), Z0N b2, Z2V, Zc, hs3, if_pos (zk5 _)]
  simp only [Z0M]
  obtain ⟨p0, p1⟩ := Z0H ha (j + q)
  obtain ⟨p2, p3⟩ := Z0H ha (j + q + 1)
  have ew := Z2o p0
  have ew' := Z2o p2
  generalize hwn : (a.getD (j + q) 0).toNat = w at ew
  generalize hwn' : (a.getD (j + q + 1) 0).toNat = w' at ew'
  have w1 : w < 18446744073709551616 := zkt.1 (ew ▸ p1)
  rw [ew, Z2Z _ _ hs', ew']
  have key : ∀ v : Nat, v = w / 2 ^ s + 2 ^ (64 - s) * (w' % 2 ^ s) → ZS.l1 k a n lost s (o ++ [(v : Int)]) ((j + q + 1 : Nat) : Int) = some (ofN (val (a.drop q) / 2 ^ s), lost || decide ((a.getD q 0).toNat % 2 ^ s ≠ 0)) := by
   intro v hv2
   have l1 : v < 18446744073709551616 := by rw [hv2]; exact Z3R hs' w1
   rw [← e1]
   refine ih (j + 1) k _ i1 i2 i3 (by rw [List.length_append, ho]; rfl) (Z2U.2 ⟨hw, Z25.2 ⟨⟨zk5 _, zkt.2 l1⟩, Z1B⟩⟩) ?_
   rw [Z36, ho, Z0h, Z4t, e1, hwn', hwn, zk4, zkp]
   rw [hwn] at hv
   exact Z4R (Z0O hs') hv2 hv
  by_cases h : 0 < s
  ·rw [if_pos (hsp.2 h), if_pos i4, Z6F h hs w1]
   exact key _ rfl
  have h00 := hs0 h
  rw [if_neg (fun x => h (hsp.1 x)), if_pos i4]
  refine key _ ?_
  rw [h00]; simp [Nat.mod_one]
theorem ZaE (a : List Int) (ha : Ws a) (q s : Nat) (n : Int) (hn : wrap64 (Int.tdiv n 64) = (q : Int)) (hm : IntKind.u64.wrap (Int.tmod n 64) = (s : Int)) (hs : s < 64) (hq : q < a.length) (na : a.length < 17592186044000) (r : Nat) : ∀ (j k : Nat) (lost : Bool), q - j = r → j ≤ q → r + 2 * a.length + 5 < k →
  ZS.l0 k a n lost (a.take q) q j = some (ofN (val (a.drop q) / 2 ^ s), (lost || decide (val ((a.take q).drop j) ≠ 0)) || decide ((a.getD q 0).toNat % 2 ^ s ≠ 0)) := by
 have hl : (a.take q).length = q := by rw [zkf]; omega
 induction r with
 | zero =>
  intro j k lost hr hj hk
  obtain ⟨k, rfl⟩ : ∃ m, k = m + 1 := ⟨k - 1, by omega⟩
  obtain rfl : j = q := by omega
  have c1 : ¬ ((j : Int) < (j : Int)) := by omega
  have hv : val ((a.take j).drop j) = 0 := by
   rw [List.drop_eq_nil_of_le Zo]; rfl
  have := ZaD a ha j s n hn hs lost hq na _ 0 k [] rfl Zo Zo rfl Z1B (by simp [val])
  simp only [ZS.l0]
  rw [if_neg c1, hm, hn, hv]
  simpa using this
 | succ r ih =>
  intro j k lost hr hj hk
  obtain ⟨k, rfl⟩ : ∃ m, k = m + 1 := ⟨k - 1, by omega⟩
  have b3 : j < 4611686018427387904 := by omega
  have hd := Z3E (a.take q) j Zo
  obtain ⟨p0, p1⟩ := Z0H (Z3W ha q) j
  have i1 : q - (j + 1) = r := by omega
  have i2 : j + 1 ≤ q := by omega
  have i3 : r + 2 * a.length + 5 < k := by omega
  have c1 : (j : Int) < (q : Int) := by omega
  have c2 : (j : Int) < ((a.take q).length : Int) := by omega
  simp only [ZS.l0]
  rw [if_pos c1, if_pos (zk5 _), if_pos c2, Z0N b3, Z0M, ih _ k _ i1 i2 i3, ih _ k _ i1 i2 i3, hd, Z7o, Z5X p0]
  cases lost <;> simp
theorem ZaF (a : List Int) (n k : Nat) (ha : Ws a) (hn : n < 9223372036854775808) (na : a.length < 17592186044000) (hk : 3 * a.length + 200 < k) :
  ZS.f k a n = some (ofN (val a / 2 ^ n), decide (val a % 2 ^ n ≠ 0)) := by
 unfold ZS.f
 have e1 : wrap64 (Int.tdiv (n : Int) 64) = ((n / 64 : Nat) : Int) := by
  rw [zko Zo, ZU Zo Zo]; omega
 have e2 : IntKind.u64.wrap (Int.tmod (n : Int) 64) = ((n % 64 : Nat) : Int) := by
  rw [zks Zo, IntKind.wrap_u64]; omega
 have e3 : wrap64 (64 * (a.length : Int)) = ((64 * a.length : Nat) : Int) := by rw [ZU Zo Zo]; omega
 by_cases h : 64 * a.length ≤ n
 ·rw [e3, if_pos Zo, Z5F a k ha na Zo, Zc]
  have h1 : val a < 2 ^ n := by
   refine zkn (Z20 ha) ?_
   have e : 18446744073709551616 ^ a.length = 2 ^ (64 * a.length) := by rw [zkD]
   rw [e]; exact zkl Zd h
  rw [zkA h1, zkz h1, Z0e]
  congr 2
  rw [decide_eq_decide]
  have := Z7W (n := val a)
  omega
 have c1 : ¬ ((n : Int) ≥ ((64 * a.length : Nat) : Int)) := by omega
 have en : n = 64 * (n / 64) + n % 64 := by omega
 have hs : n % 64 < 64 := by omega
 have c5 : n / 64 < a.length := by omega
 have c3 : ((n / 64 : Nat) : Int) ≤ (a.length : Int) := by omega
 have c4 : max ((n / 64 : Nat) : Int) 0 = ((n / 64 : Nat) : Int) := by omega
 have c6 : n / 64 + 2 * a.length + 5 < k := by omega
 have := ZaE a ha (n / 64) (n % 64) n e1 e2 hs c5 na _ 0 k false rfl (zkC _) c6
 obtain ⟨h1, h2⟩ := Z4u ha hs (zky c5)
 rw [← en] at h1 h2
 rw [e3, if_neg c1, e1, if_pos (zk5 _), if_pos c3, c4, zk4, h1]
 refine this.trans ?_
 rw [List.drop_zero]
 congr 2
 rw [zkm, Bool.or_eq_true, zkM, decide_eq_true_eq, decide_eq_true_eq, decide_eq_true_eq, h2]
theorem Z4c (n i : Nat) : (List.replicate n (0 : Int)).getD i 0 = 0 := by
 rw [List.getD_eq_getElem?_getD, List.getElem?_replicate]; split <;> rfl
theorem Z7p (a : List Int) (n k : Nat) (ha : Ws a) (hn : n < 4611686018427387904) (h0 : a ≠ []) (na : a.length + n / 64 < 35184372088000) (hk : 2 * a.length + n / 64 + 10 < k) : ZG.f k a n = some (ofN (val a * 2 ^ n)) := by
 unfold ZG.f
 have e1 : wrap64 (Int.tdiv (n : Int) 64) = ((n / 64 : Nat) : Int) := by
  rw [zko Zo, ZU Zo Zo]; omega
 have e2 : Int.tmod (n : Int) 64 = ((n % 64 : Nat) : Int) := by
  rw [zks Zo]; omega
 have hl := List.length_pos_iff.2 h0
 have e3 : wrap64 ((wrap64 ((a.length : Int) + ((n / 64 : Nat) : Int))) + 1) = ((a.length + n / 64 + 1 : Nat) : Int) := by
  rw [ZU (x := (a.length : Int) + ((n / 64 : Nat) : Int)) Zo Zo, ZU Zo Zo]; omega
 have c1 : ((a.length + n / 64 + 1 : Nat) : Int).toNat ≤ 35184372088832 := by rw [zk4]; omega
 have c2 : ¬ ((a.length : Int) = 0) := by omega
 have := Z9x a ha (n / 64) (n % 64) Zo na _ 0 k (List.replicate (a.length + n / 64 + 1) 0) 0 rfl Zo Zo (by simp) (Z1J _) (zkc Zd) (by rw [Z4c]; rfl) (fun i _ => Z4c _ _) (by simp [Z3o, val])
 rw [if_neg c2, e1, e2, e3, if_pos (zk5 _), if_pos c1, zk4, Z4s n, Nat.mul_left_comm]
 exact this
def Z7Z (v : Nat) (n : Int) : List Int × Int := if v < big then (if n < 0 then ([], 2) else if v = 0 then ([], 0) else if bl v + n.toNat ≤ 65536 then (ofN (v * 2 ^ n.toNat), 0) else ([], 3)) else ([], 3)
def Z80 (v : Nat) (n : Int) : List Int × Bool × Int := if v < big then (if n < 0 then ([], false, 2) else (ofN (v / 2 ^ n.toNat), decide (v % 2 ^ n.toNat ≠ 0), 0)) else ([], false, 3)
theorem Z1o {v : Nat} : (ofN v).length = 0 ↔ v = 0 := by rw [List.length_eq_zero_iff, Z6u]
theorem Zbw (a : List Int) (n : Int) (k : Nat) (ha : Ws a) (na : a.length < 17592186044000) (hk : 4 * a.length + 10000 < k) : Z34.f k a n = some (Z7Z (val a) n) := by
 unfold Z34.f Z7Z
 rw [Z3X a k ha Zo Zo, Zc]
 by_cases h : val a < big
 ·have hl := Z1Y h
  simp only [if_pos h]
  rw [if_pos trivial]
  by_cases g : n < 0
  ·rw [if_pos g, if_pos g]
  obtain ⟨m, rfl⟩ : ∃ m : Nat, n = (m : Int) := ⟨n.toNat, by omega⟩
  rw [if_neg g, if_neg g, zk4]
  by_cases z : val a = 0
  ·have z' := Z1o.2 z
   rw [if_pos z, if_pos Zo]
  have z' : (ofN (val a)).length ≠ 0 := fun x => z (Z1o.1 x)
  have hb := Z47 z
  rw [if_neg z, if_neg Zo]
  by_cases w : bl (val a) + m ≤ 65536
  ·have hm : m / 64 ≤ 1024 := by omega
   have hr := (Z7f z).2 w
   rw [if_pos w, if_neg Zo, Z7p _ _ _ (ZT _) Zo (fun x => z' (by rw [x]; rfl)) Zo Zo, Zc, Zy, Z5W, Zc, if_pos hr]
  rw [if_neg w]
  by_cases u : (m : Int) > 65536
  ·rw [if_pos u]
  have hm : m / 64 ≤ 1024 := by omega
  have hr : ¬ val a * 2 ^ m < big := fun x => w ((Z7f z).1 x)
  rw [if_neg u, Z7p _ _ _ (ZT _) Zo (fun x => z' (by rw [x]; rfl)) Zo Zo, Zc, Zy, Z5W, Zc, if_neg hr]
 simp only [if_neg h]
 rw [if_neg Zd]
theorem Zbx (a : List Int) (n : Int) (k : Nat) (ha : Ws a) (hn : n < 9223372036854775808) (na : a.length < 17592186044000) (hk : 4 * a.length + 10000 < k) : Z2S.f k a n = some (Z80 (val a) n) := by
 unfold Z2S.f Z80
 rw [Z3X a k ha Zo Zo, Zc]
 by_cases h : val a < big
 ·have hl := Z1Y h
  simp only [if_pos h]
  rw [if_pos trivial]
  by_cases g : n < 0
  ·rw [if_pos g, if_pos g]
  obtain ⟨m, rfl⟩ : ∃ m : Nat, n = (m : Int) := ⟨n.toNat, by omega⟩
  have hd : (ofN (val a / 2 ^ m)).length ≤ 1024 := Z1Y (zkr (Nat.div_le_self _ _) h)
  rw [if_neg g, if_neg g, zk4, ZaC _ _ _ (ZT _) Zo Zo (fun x => by rw [Zy] at x; exact Z6u.2 x) Zo, Zc, Zy]
  have ho := Z6B (ofN (val a / 2 ^ m)) Zo
  dsimp only
  rw [ho, Zc]
 simp only [if_neg h]
 rw [if_neg Zd]
theorem Z81 (x n : Nat) : (x : Int) / (n : Int) = ((x / n : Nat) : Int) := (Int.natCast_ediv x n).symm
theorem Zcb (x n : Nat) : Int.tmod (x : Int) (n : Int) = ((x % n : Nat) : Int) := (Int.ofNat_tmod x n).symm
theorem Z9B : ∀ i : Fin 256, (i.val = 0 ∧ bt (⟨#[0, 1, 2, 2, 3, 3, 3, 3, 4, 4, 4, 4, 4, 4, 4, 4, 5, 5, 5, 5, 5, 5, 5, 5, 5, 5, 5, 5, 5, 5, 5, 5, 6, 6, 6, 6, 6, 6, 6, 6, 6, 6, 6, 6, 6, 6, 6, 6, 6, 6, 6, 6, 6, 6, 6, 6, 6, 6, 6, 6, 6, 6, 6, 6, 7, 7, 7, 7, 7, 7, 7, 7, 7, 7, 7, 7, 7, 7, 7, 7, 7, 7, 7, 7, 7, 7, 7, 7, 7, 7, 7, 7, 7, 7, 7, 7, 7, 7, 7, 7, 7, 7, 7, 7, 7, 7, 7, 7, 7, 7, 7, 7, 7, 7, 7, 7, 7, 7, 7, 7, 7, 7, 7, 7, 7, 7, 7, 7, 8, 8, 8, 8, 8, 8, 8, 8, 8, 8, 8, 8, 8, 8, 8, 8, 8, 8, 8, 8, 8, 8, 8, 8, 8, 8, 8, 8, 8, 8, 8, 8, 8, 8, 8, 8, 8, 8, 8, 8, 8, 8, 8, 8, 8, 8, 8, 8, 8, 8, 8, 8, 8, 8, 8, 8, 8, 8, 8, 8, 8, 8, 8, 8, 8, 8, 8, 8, 8, 8, 8, 8, 8, 8, 8, 8, 8, 8, 8, 8, 8, 8, 8, 8, 8, 8, 8, 8, 8, 8, 8, 8, 8, 8, 8, 8, 8, 8, 8, 8, 8, 8, 8, 8, 8, 8, 8, 8, 8, 8, 8, 8, 8, 8, 8, 8, 8, 8, 8, 8, 8, 8, 8, 8, 8, 8, 8, 8]⟩ : ByteArray) (i.val : Int) = 0) ∨
  ∃ t : Fin 8, 2 ^ t.val ≤ i.val ∧ i.val < 2 ^ (t.val + 1) ∧ bt (⟨#[0, 1, 2, 2, 3, 3, 3, 3, 4, 4, 4, 4, 4, 4, 4, 4, 5, 5, 5, 5, 5, 5, 5, 5, 5, 5, 5, 5, 5, 5, 5, 5, 6, 6, 6, 6, 6, 6, 6, 6, 6, 6, 6, 6, 6, 6, 6, 6, 6, 6, 6, 6, 6, 6, 6, 6, 6, 6, 6, 6, 6, 6, 6, 6, 7, 7, 7, 7, 7, 7, 7, 7, 7, 7, 7, 7, 7, 7, 7, 7, 7, 7, 7, 7, 7, 7, 7, 7, 7, 7, 7, 7, 7, 7, 7, 7, 7, 7, 7, 7, 7, 7, 7, 7, 7, 7, 7, 7, 7, 7, 7, 7, 7, 7, 7, 7, 7, 7, 7, 7, 7, 7, 7, 7, 7, 7, 7, 7, 8, 8, 8, 8, 8, 8, 8, 8, 8, 8, 8, 8, 8, 8, 8, 8, 8, 8, 8, 8, 8, 8, 8, 8, 8, 8, 8, 8, 8, 8, 8, 8, 8, 8, 8, 8, 8, 8, 8, 8, 8, 8, 8, 8, 8, 8, 8, 8, 8, 8, 8, 8, 8, 8, 8, 8, 8, 8, 8, 8, 8, 8, 8, 8, 8, 8, 8, 8, 8, 8, 8, 8, 8, 8, 8, 8, 8, 8, 8, 8, 8, 8, 8, 8, 8, 8, 8, 8, 8, 8, 8, 8, 8, 8, 8, 8, 8, 8, 8, 8, 8, 8, 8, 8, 8, 8, 8, 8, 8, 8, 8, 8, 8, 8, 8, 8, 8, 8, 8, 8, 8, 8, 8, 8, 8, 8, 8, 8]⟩ : ByteArray) (i.val : Int) = ((t.val + 1 : Nat) : Int) := by decide +kernel
def Zcq : ByteArray := ⟨#[0, 1, 2, 2, 3, 3, 3, 3, 4, 4, 4, 4, 4, 4, 4, 4, 5, 5, 5, 5, 5, 5, 5, 5, 5, 5, 5, 5, 5, 5, 5, 5, 6, 6, 6, 6, 6, 6, 6, 6, 6, 6, 6, 6, 6, 6, 6, 6, 6, 6, 6, 6, 6, 6, 6, 6, 6, 6, 6, 6, 6, 6, 6, 6, 7, 7, 7, 7, 7, 7, 7, 7, 7, 7, 7, 7, 7, 7, 7, 7, 7, 7, 7, 7, 7, 7, 7, 7, 7, 7, 7, 7, 7, 7, 7, 7, 7, 7, 7, 7, 7, 7, 7, 7, 7, 7, 7, 7, 7, 7, 7, 7, 7, 7, 7, 7, 7, 7, 7, 7, 7, 7, 7, 7, 7, 7, 7, 7, 8, 8, 8, 8, 8, 8, 8, 8, 8, 8, 8, 8, 8, 8, 8, 8, 8, 8, 8, 8, 8, 8, 8, 8, 8, 8, 8, 8, 8, 8, 8, 8, 8, 8, 8, 8, 8, 8, 8, 8, 8, 8, 8, 8, 8, 8, 8, 8, 8, 8, 8, 8, 8, 8, 8, 8, 8, 8, 8, 8, 8, 8, 8, 8, 8, 8, 8, 8, 8, 8, 8, 8, 8, 8, 8, 8, 8, 8, 8, 8, 8, 8, 8, 8, 8, 8, 8, 8, 8, 8, 8, 8, 8, 8, 8, 8, 8, 8, 8, 8, 8, 8, 8, 8, 8, 8, 8, 8, 8, 8, 8, 8, 8, 8, 8, 8, 8, 8, 8, 8, 8, 8, 8, 8, 8, 8, 8, 8]⟩
theorem ZaG (i : Nat) (h : i < 256) : bt Zcq (i : Int) = (bl i : Int) := by
 rcases Z9B ⟨i, h⟩ with ⟨h1, h2⟩ | ⟨t, h1, h2, h3⟩
 ·have h1' : i = 0 := h1
  subst h1'
  rw [Z1X]; exact h2
 rw [Z2a h1 h2]; exact h3
theorem Z4d {w t : Nat} (h : 2 ^ t ≤ w) : bl w = bl (w / 2 ^ t) + t := by
 have hp : 0 < 2 ^ t := zkc Zd
 have hn : w / 2 ^ t ≠ 0 := by
  have := (Nat.le_div_iff_mul_le hp (x := 1) (y := w)).2 Zo
  omega
 have a := Z2H (w / 2 ^ t); have b := Z46 hn; have c := Z47 hn
 have d := zkG w (2 ^ t)
 have e := zkH w hp
 have e2 : bl (w / 2 ^ t) + t = (bl (w / 2 ^ t) - 1 + t) + 1 := by omega
 rw [e2]
 apply Z2a
 ·have : bl (w / 2 ^ t) = (bl (w / 2 ^ t) - 1) + 1 := by omega
  rw [this, zkp] at b
  rw [zke, zkw]
  exact zk6 (Nat.mul_le_mul_left (2 ^ t) (show 2 ^ (bl (w / 2 ^ t) - 1) ≤ w / 2 ^ t by omega)) (Nat.mul_div_le w (2 ^ t))
 rw [← e2, zke]
 exact (zkE hp).1 a
set_option maxRecDepth 100000 in
theorem Z6H (k w m : Nat) (hw : w < 4294967296) (hm : m ≤ 32) : Z0K.j0 (k + 1) w m = some ((m + bl w : Nat) : Int) := by
 have q16 : wrap64 ((m : Int) + 16) = ((m + 16 : Nat) : Int) := by rw [ZU Zo Zo]; rfl
 have q168 : wrap64 (((m + 16 : Nat) : Int) + 8) = ((m + 16 + 8 : Nat) : Int) := by rw [ZU Zo Zo]; rfl
 have q8 : wrap64 ((m : Int) + 8) = ((m + 8 : Nat) : Int) := by rw [ZU Zo Zo]; rfl
 have qb : ∀ x : Nat, x ≤ 8 → wrap64 (x : Int) = (x : Int) := fun x h => ZU Zo Zo
 have qa : ∀ a x : Nat, a ≤ 100 → x ≤ 8 → wrap64 ((a : Int) + (x : Int)) = ((a + x : Nat) : Int) := fun a x h g => by rw [ZU Zo Zo]; omega
 simp only [Z0K.j0]
 have d1 : (w : Int) / 65536 = ((w / 65536 : Nat) : Int) := Z81 w 65536
 have d2 : ((w / 65536 : Nat) : Int) / 256 = ((w / 65536 / 256 : Nat) : Int) := Z81 _ 256
 have d3 : (w : Int) / 256 = ((w / 256 : Nat) : Int) := Z81 w 256
 have m1 : ∀ x : Nat, x < 256 → ((x : Nat) : Int) % 256 = (x : Int) := fun x h => by omega
 have bl8 : ∀ x, x < 256 → bl x ≤ 8 := fun x h => Z1K.2 h
 have t1 : ∀ x : Nat, x < 256 → bt (⟨#[0, 1, 2, 2, 3, 3, 3, 3, 4, 4, 4, 4, 4, 4, 4, 4, 5, 5, 5, 5, 5, 5, 5, 5, 5, 5, 5, 5, 5, 5, 5, 5, 6, 6, 6, 6, 6, 6, 6, 6, 6, 6, 6, 6, 6, 6, 6, 6, 6, 6, 6, 6, 6, 6, 6, 6, 6, 6, 6, 6, 6, 6, 6, 6, 7, 7, 7, 7, 7, 7, 7, 7, 7, 7, 7, 7, 7, 7, 7, 7, 7, 7, 7, 7, 7, 7, 7, 7, 7, 7, 7, 7, 7, 7, 7, 7, 7, 7, 7, 7, 7, 7, 7, 7, 7, 7, 7, 7, 7, 7, 7, 7, 7, 7, 7, 7, 7, 7, 7, 7, 7, 7, 7, 7, 7, 7, 7, 7, 8, 8, 8, 8, 8, 8, 8, 8, 8, 8, 8, 8, 8, 8, 8, 8, 8, 8, 8, 8, 8, 8, 8, 8, 8, 8, 8, 8, 8, 8, 8, 8, 8, 8, 8, 8, 8, 8, 8, 8, 8, 8, 8, 8, 8, 8, 8, 8, 8, 8, 8, 8, 8, 8, 8, 8, 8, 8, 8, 8, 8, 8, 8, 8, 8, 8, 8, 8, 8, 8, 8, 8, 8, 8, 8, 8, 8, 8, 8, 8, 8, 8, 8, 8, 8, 8, 8, 8, 8, 8, 8, 8, 8, 8, 8, 8, 8, 8, 8, 8, 8, 8, 8, 8, 8, 8, 8, 8, 8, 8, 8, 8, 8, 8, 8, 8, 8, 8, 8, 8, 8, 8, 8, 8, 8, 8, 8, 8]⟩ : ByteArray) (x : Int) = (bl x : Int) := ZaG
 rw [d1, d2, d3]
 by_cases h : 65536 ≤ w
 ·have s1 := Z4d (w := w) (t := 16) h
  have l1 : w / 65536 < 65536 := by omega
  rw [if_pos Zo]
  by_cases g : 256 ≤ w / 65536
  ·have s2 := Z4d (w := w / 65536) (t := 8) g
   have l2 : w / 65536 / 256 < 256 := by omega
   have l3 := bl8 _ l2
   rw [if_pos Zo, m1 _ l2, if_pos Zo, if_pos Zo, t1 _ l2, q16, q168, qb _ l3, qa _ _ Zo l3]
   rw [s1]
   have s2' : bl (w / 65536) = bl (w / 65536 / 256) + 8 := s2
   have s3 : bl (w / 2 ^ 16) = bl (w / 65536 / 256) + 8 := s2
   rw [s3]; congr 1; omega
  have l2 : w / 65536 < 256 := by omega
  have l3 := bl8 _ l2
  rw [if_neg Zo, m1 _ l2, if_pos Zo, if_pos Zo, t1 _ l2, q16, qb _ l3, qa _ _ Zo l3]
  have s3 : bl w = bl (w / 65536) + 16 := s1
  rw [s3]; congr 1; omega
 rw [if_neg Zo]
 by_cases g : 256 ≤ w
 ·have s2 := Z4d (w := w) (t := 8) g
  have l2 : w / 256 < 256 := by omega
  have l3 := bl8 _ l2
  rw [if_pos Zo, m1 _ l2, if_pos Zo, if_pos Zo, t1 _ l2, q8, qb _ l3, qa _ _ Zo l3]
  have s3 : bl w = bl (w / 256) + 8 := s2
  rw [s3]; congr 1; omega
 have l2 : w < 256 := by omega
 have l3 := bl8 _ l2
 rw [if_neg Zo, m1 _ l2, if_pos Zo, if_pos Zo, t1 _ l2, qb _ l3, qa _ _ Zo l3]
theorem Z6I (k w : Nat) (hw : w < 18446744073709551616) (hk : 1 < k) : Z0K.f k w = some ((bl w : Nat) : Int) := by
 obtain ⟨k, rfl⟩ : ∃ m, k = m + 1 := ⟨k - 1, by omega⟩
 unfold Z0K.f
 by_cases h : 4294967296 ≤ w
 ·have d1 : (w : Int) / 4294967296 = ((w / 4294967296 : Nat) : Int) := Z81 w 4294967296
  have s1 : bl w = bl (w / 4294967296) + 32 := Z4d (w := w) (t := 32) h
  have := Z6H k (w / 4294967296) 32 Zo Zo
  rw [if_pos Zo, d1, s1]
  refine this.trans ?_
  congr 1; omega
 have := Z6H k w 0 Zo Zo
 rw [zkF] at this
 rw [if_neg Zo]; exact this
theorem q32 {Q : Nat} (h : Q < 4294967296) : Q * 4294967296 < 18446744073709551616 := by omega
theorem Z1F (v : Nat) (h : v ≠ 0) : ∃ t m, v = 2 ^ t * (2 * m + 1) := by
 induction v using Nat.strongRecOn with
 | _ v ih =>
  by_cases g : v % 2 = 1
  ·exact ⟨0, v / 2, by rw [Nat.pow_zero]; omega⟩
  obtain ⟨t, m, e⟩ := ih (v / 2) Zo Zo
  exact ⟨t + 1, m, by rw [zkp, Nat.mul_right_comm, ← e]; omega⟩
theorem Z3w (t m n : Nat) (h : n ≤ t) : (2 ^ t * (2 * m + 1)) / 2 ^ n % 2 = if n = t then 1 else 0 := by
 have hp : 0 < 2 ^ n := zkc Zd
 obtain ⟨d, rfl⟩ : ∃ d, t = n + d := ⟨t - n, by omega⟩
 rw [zke, zkj, Nat.mul_div_cancel_left _ hp]
 by_cases g : d = 0
 ·subst g; rw [if_pos Zo, Nat.pow_zero]; omega
 rw [if_neg Zo]
 obtain ⟨e, rfl⟩ : ∃ e, d = e + 1 := ⟨d - 1, by omega⟩
 rw [zkp, Nat.mul_right_comm]; omega
theorem Z4e {t m s n : Nat} (h : 2 ^ t * (2 * m + 1) = 2 ^ s * (2 * n + 1)) : t = s := by
 rcases Nat.lt_trichotomy t s with g | g | g
 ·have a := Z3w t m t (zka _)
  have b := Z3w s n t (zky g)
  rw [h, b, if_neg (Nat.ne_of_lt g), if_pos rfl] at a; omega
 ·exact g
 have a := Z3w s n s (zka _)
 have b := Z3w t m s (zky g)
 rw [← h, b, if_neg (Nat.ne_of_lt g), if_pos rfl] at a; omega
theorem ZaH (t a : Nat) (h : 2 ^ t * (2 * a + 1) < 2 ^ 64) : 2 ^ t * (2 * a + 1) &&& (2 ^ 64 - 2 ^ t * (2 * a + 1)) = 2 ^ t := by
 have hp : 0 < 2 ^ t := zkc Zd
 obtain ⟨c, hc⟩ : ∃ c, c + 1 = 2 ^ t * (2 * a + 1) := ⟨2 ^ t * (2 * a + 1) - 1, by have : 0 < 2 ^ t * (2 * a + 1) := zkx hp Zo; omega⟩
 have hc2 : c = 2 ^ t * (2 * a) + (2 ^ t - 1) := by rw [zkv] at hc; omega
 have ht : t < 64 := (Nat.pow_lt_pow_iff_right (a := 2) Zd).1 (zkr (zku _ Zo) h)
 apply Nat.eq_of_testBit_eq
 intro i
 rw [Nat.testBit_and, Nat.testBit_two_pow, ← hc, Nat.testBit_two_pow_sub_succ Zo, hc, hc2, Nat.testBit_two_pow_mul_add _ Zo]
 have e0 : 2 ^ t * (2 * a + 1) = 2 ^ t * (2 * a + 1) + 0 := rfl
 rw [e0, Nat.testBit_two_pow_mul_add _ hp]
 by_cases h1 : i < t
 ·have : t ≠ i := by omega
  simp [h1, this]
 rw [if_neg h1, if_neg h1]
 by_cases h2 : t = i
 ·subst h2
  rw [Nat.sub_self]; simp [ht]
 obtain ⟨j, hj⟩ : ∃ j, i - t = j + 1 := ⟨i - t - 1, by omega⟩
 rw [hj, Nat.testBit_succ, Nat.testBit_succ]
 have e1 : (2 * a + 1) / 2 = a := by omega
 have e2 : 2 * a / 2 = a := by omega
 rw [e1, e2]
 cases a.testBit j <;> simp [h2]
theorem Z9C : ∀ t : Fin 64, tzTab.getD (2 ^ t.val * 285870213051353865 % 18446744073709551616 / 288230376151711744) 0 = (t.val : Int) ∧ 2 ^ t.val * 285870213051353865 % 18446744073709551616 / 288230376151711744 < 64 := by decide +kernel
theorem Z6J {w t m : Nat} (hw : w = 2 ^ t * (2 * m + 1)) (h : w < 18446744073709551616) : Z0z.f w = some (t : Int) ∧ t < 64 := by
 have hp : 0 < 2 ^ t := zkc Zd
 have h0 : 0 < w := by rw [hw]; exact zkx hp Zo
 have h64 : 2 ^ t * (2 * m + 1) < 2 ^ 64 := by rw [← hw]; exact h
 have ht : t < 64 := (Nat.pow_lt_pow_iff_right (a := 2) Zd).1 (zkr (zku _ Zo) h64)
 have ha := ZaH t m h64
 rw [← hw] at ha
 obtain ⟨b1, b2⟩ := Z9C ⟨t, ht⟩
 have e1 : IntKind.u64.wrap (-(w : Int)) = ((18446744073709551616 - w : Nat) : Int) := by rw [IntKind.wrap_u64]; omega
 have e2 : bits BinOp.and IntKind.u64 (w : Int) ((18446744073709551616 - w : Nat) : Int) = ((2 ^ t : Nat) : Int) := by
  rw [u64_and_nat w _ h Zo]
  exact congrArg Nat.cast ha
 have e3 : tzI (w : Int) = ((2 ^ t * 285870213051353865 % 18446744073709551616 / 288230376151711744 : Nat) : Int) := by
  unfold tzI
  rw [e1, e2]
  generalize 2 ^ t = p
  rw [IntKind.wrap_u64]; omega
 refine ⟨?_, ht⟩
 unfold Z0z.f
 dsimp only at b1 b2
 rw [if_neg Zo, e3, if_pos (zk5 _), if_pos Zo, zk4, b1]
theorem Z7q {a : List Int} (ha : Ws a) (j s : Nat) (hs : s < 64) : val a / 2 ^ (64 * j + s) % 2 = (a.getD j 0).toNat / 2 ^ s % 2 := by
 have e : 2 ^ (64 * j + s) = 18446744073709551616 ^ j * 2 ^ s := by rw [zke, zkD]
 by_cases h : j < a.length
 ·have ht := Z2d ha j
  obtain ⟨h1, _⟩ := Z7g (S := 2 ^ s) ht (Z2G a j (zky h))
  rw [e, h1, Z3E a j h]
  have hp : 0 < 2 ^ s := zkc Zd
  have e2 : (18446744073709551616 : Nat) = 2 ^ s * (2 * 2 ^ (63 - s)) := by
   have := Z0O (show s ≤ 64 by omega)
   have e3 : 64 - s = (63 - s) + 1 := by omega
   rw [e3, zkp, zkw _ 2] at this
   exact this.symm
  generalize (a.getD j 0).toNat = w
  generalize val (a.drop (j + 1)) = r
  have e4 : (w + 18446744073709551616 * r) / 2 ^ s = w / 2 ^ s + 2 * 2 ^ (63 - s) * r := by
   have : w + 18446744073709551616 * r = w + 2 ^ s * (2 * 2 ^ (63 - s) * r) := by rw [← zkj, ← e2]
   rw [this, Nat.add_mul_div_left _ _ hp]
  rw [e4, zkj]
  omega
 rw [Z2g a j Zo, e]
 have : val a < 18446744073709551616 ^ j := zkn (Z20 ha) (zkl Zd Zo)
 rw [← Nat.div_div_eq_div_mul, zkA this]; simp
theorem Zby {w : Nat} (hw : w < 18446744073709551616) : Go.bits .and .u64 (w : Int) 1 = ((w % 2 : Nat) : Int) := by
 have h := u64_and_nat w 1 hw Zd
 have e : w &&& 1 = w % 2 := Nat.and_two_pow_sub_one_eq_mod w 1
 rw [e] at h; exact h
theorem Z7r (a : List Int) (ha : Ws a) (n : Nat) (hn : n < 9223372036854775808) : Z1I.f a n = some (decide (val a / 2 ^ n % 2 = 1)) := by
 unfold Z1I.f
 have e1 : wrap64 (Int.tdiv (n : Int) 64) = ((n / 64 : Nat) : Int) := by
  rw [zko Zo, ZU Zo Zo]; omega
 have e2 : IntKind.u64.wrap (Int.tmod (n : Int) 64) = ((n % 64 : Nat) : Int) := by
  rw [zks Zo, IntKind.wrap_u64]; omega
 have en : val a / 2 ^ n % 2 = (a.getD (n / 64) 0).toNat / 2 ^ (n % 64) % 2 := by
  have := Z7q ha (n / 64) (n % 64) Zo
  rw [zkG] at this; exact this
 obtain ⟨p0, p1⟩ := Z0H ha (n / 64)
 have ew := Z2o p0
 rw [en]
 generalize (a.getD (n / 64) 0).toNat = w at *
 have hs : n % 64 ≤ 64 := by omega
 have h2 : Int.tmod (((w / 2 ^ (n % 64) : Nat)) : Int) 2 = ((w / 2 ^ (n % 64) % 2 : Nat) : Int) := Zcb _ 2
 rw [if_pos Zo, e1, Z2V, Zc, e2, if_pos (zk5 _), ew, Z2Z _ _ hs, h2]
 generalize w / 2 ^ (n % 64) % 2 = z
 congr 1
 rw [zkm]; simp; omega
theorem Zbz (a : List Int) (i : Int) (k : Nat) (ha : Ws a) (hi : i < 9223372036854775808) (na : a.length < 17592186044000) (hk : a.length < k) :
  Z2T.f k a i = some (if val a < big then (if i < 0 then (false, 2) else (decide (val a / 2 ^ i.toNat % 2 = 1), 0)) else (false, 3)) := by
 unfold Z2T.f
 rw [Z3X a k ha Zo Zo, Zc]
 by_cases h : val a < big
 ·simp only [if_pos h]
  rw [if_pos trivial]
  by_cases g : i < 0
  ·rw [if_pos g, if_pos g]
  obtain ⟨n, rfl⟩ : ∃ n : Nat, i = (n : Int) := ⟨i.toNat, by omega⟩
  have hl := Z1Y h
  have e1 : wrap64 (Int.tdiv (n : Int) 64) = ((n / 64 : Nat) : Int) := by
   rw [zko Zo, ZU Zo Zo]; omega
  have e2 : Int.tmod (n : Int) 64 = ((n % 64 : Nat) : Int) := by
   rw [zks Zo]; omega
  have hs : n % 64 ≤ 64 := by omega
  have en : val (ofN (val a)) / 2 ^ n % 2 = ((ofN (val a)).getD (n / 64) 0).toNat / 2 ^ (n % 64) % 2 := by
   have := Z7q (ZT (val a)) (n / 64) (n % 64) Zo
   rw [zkG] at this; exact this
  rw [Zy] at en
  rw [if_neg g, if_neg g, zk4, e1, e2, en]
  generalize hq : n / 64 = q at *
  by_cases c : q < (ofN (val a)).length
  ·obtain ⟨p0, p1⟩ := Z0H (ZT (val a)) q
   have ew := Z2o p0
   have cc : ((q : Nat) : Int) < ((ofN (val a)).length : Int) := by omega
   rw [if_pos cc, if_pos (zk5 _), if_pos (zk5 _), Z0M]
   generalize ((ofN (val a)).getD q 0).toNat = w at *
   have w1 : w < 18446744073709551616 := zkt.1 (ew ▸ p1)
   rw [ew, Z2Z _ _ hs, Zby (zkr (Nat.div_le_self _ _) w1)]
   generalize w / 2 ^ (n % 64) % 2 = z
   congr 2
   rw [zkm]; simp; omega
  rw [if_neg Zo, Z2g _ _ Zo]
  simp
 simp only [if_neg h]
 rw [if_neg Zd]
theorem ZaI (a : List Int) (k : Nat) (ha : Ws a) (na : a.length < 17592186044000) (hk : a.length < k) : Z2M.f k a = some (if val a < big then (ofN (val a), 0) else ([], 3)) := by
 unfold Z2M.f
 rw [Z3X a k ha Zo Zo, Zc]
 by_cases h : val a < big
 ·have hl := Z1Y h
  have ho := Z6B (ofN (val a)) Zo
  simp only [if_pos h]
  rw [if_pos trivial, ho, Zc]
 simp only [if_neg h]
 rw [if_neg Zd]
theorem Z8C (v k : Nat) (hl : (ofN v).length ≤ 1024) (hk : 1 < k) : Z1C.f k (ofN v) = some ((bl v : Nat) : Int) := by
 unfold Z1C.f
 by_cases h : v = 0
 ·have := Z1o.2 h
  rw [if_pos Zo, h, Z1X]; rfl
 obtain ⟨m, w, h1, h2, h3, h4, h5⟩ := Z6G h
 have hb := Z5E h4
 have e1 : wrap64 (((ofN v).length : Int) - 1) = (m : Int) := by rw [ZU Zo Zo]; omega
 have c0 : ¬ ((ofN v).length : Int) = 0 := by clear e1; omega
 have c1 : (m : Int) < ((ofN v).length : Int) := by clear e1; omega
 have e2 : wrap64 (64 * (m : Int)) = ((64 * m : Nat) : Int) := by clear e1; rw [ZU Zo Zo]; omega
 have e3 : wrap64 (((64 * m : Nat) : Int) + ((bl w : Nat) : Int)) = ((64 * m + bl w : Nat) : Int) := by clear e1 e2; rw [ZU Zo Zo]; omega
 rw [if_neg c0, e1, if_pos (zk5 _), if_pos c1, Z0M, h5, Z6I k w h4 hk, Zc, e2, e3, h2]
theorem ZbA (a : List Int) (k : Nat) (ha : Ws a) (na : a.length < 17592186044000) (hk : a.length + 1 < k) : Z33.f k a = some (if val a < big then (((bl (val a) : Nat) : Int), 0) else (0, 3)) := by
 unfold Z33.f
 rw [Z3X a k ha Zo Zo, Zc]
 by_cases h : val a < big
 ·simp only [if_pos h]
  rw [Z8C _ k (Z1Y h) Zo, Zc]
 simp only [if_neg h]
 have := Z8C 0 k (by rw [Z0e]; decide) Zo
 rw [Z0e, Z1X] at this
 rw [this, Zc]; rfl
theorem Z4W (v : Nat) (e : Int) (hl : (ofN v).length ≤ 1024) (s : Nat) : ∀ (i k : Nat), (ofN v).length - i = s → i ≤ (ofN v).length → s < k → val ((ofN v).take i) = 0 →
  (v = 0 → Z13.l0 k e (ofN v) (ofN v).length i = some (0, e)) ∧ (∀ t m : Nat, v = 2 ^ t * (2 * m + 1) → Z13.l0 k e (ofN v) (ofN v).length i = some ((t : Int), e)) := by
 induction s with
 | zero =>
  intro i k hs hi hk hz
  obtain ⟨k, rfl⟩ : ∃ z, k = z + 1 := ⟨k - 1, by omega⟩
  obtain rfl : i = (ofN v).length := by omega
  rw [ZP _ _ (zka _), Zy] at hz
  have g : Z13.l0 (k + 1) e (ofN v) (ofN v).length ((ofN v).length : Nat) = some (0, e) := by
   simp only [Z13.l0]; rw [if_neg Zo]
  refine ⟨fun _ => g, fun t m ht => ?_⟩
  have : 0 < 2 ^ t * (2 * m + 1) := zkx (zkc Zd) Zo
  omega
 | succ s ih =>
  intro i k hs hi hk hz
  obtain ⟨k, rfl⟩ : ∃ z, k = z + 1 := ⟨k - 1, by omega⟩
  have i1 : (ofN v).length - (i + 1) = s := by omega
  have i2 : i + 1 ≤ (ofN v).length := by omega
  have i3 : s < k := by omega
  have g1 : (i : Int) < ((ofN v).length : Int) := by omega
  have b3 : i < 4611686018427387904 := by omega
  have i5 : i < (ofN v).length := by omega
  obtain ⟨p0, p1⟩ := Z0H (ZT v) i
  have ew := Z2o p0
  have ts := Z0C (ofN v) i i5
  have td := Z2G (ofN v) i (zky i5)
  have vd := Z3E (ofN v) i i5
  rw [hz] at ts td
  rw [Zy, vd] at td
  simp only [Z13.l0]
  rw [if_pos g1, if_pos (zk5 _), if_pos g1, Z0M]
  generalize hwn : ((ofN v).getD i 0).toNat = w at *
  by_cases h : w = 0
  ·have := ih (i + 1) k i1 i2 i3 (by rw [ts, h]; simp)
   rw [if_pos (by rw [ew, h]; rfl), Z0N b3]
   exact this
  have w1 : w < 18446744073709551616 := zkt.1 (ew ▸ p1)
  obtain ⟨s', c, hc⟩ := Z1F w h
  obtain ⟨tz, ts64⟩ := Z6J hc w1
  have e2 : wrap64 (64 * (i : Int)) = ((64 * i : Nat) : Int) := by rw [ZU Zo Zo]; omega
  have e3 : wrap64 (((64 * i : Nat) : Int) + (s' : Int)) = ((64 * i + s' : Nat) : Int) := by clear e2; rw [ZU Zo Zo]; omega
  have hw0 : ¬ (w : Int) = 0 := by clear e2 e3; omega
  rw [ew, if_neg hw0, tz, Zc, e2, e3]
  clear e2 e3
  have hv : v = 2 ^ (64 * i + s') * (2 * (c + 2 ^ (63 - s') * val ((ofN v).drop (i + 1))) + 1) := by
   have eB : (18446744073709551616 : Nat) = 2 ^ s' * (2 * 2 ^ (63 - s')) := by
    have := Z0O (show s' ≤ 64 by omega)
    have e3 : 64 - s' = (63 - s') + 1 := by omega
    rw [e3, zkp, zkw _ 2] at this
    exact this.symm
   have eP : (18446744073709551616 : Nat) ^ i = 2 ^ (64 * i) := by rw [zkD]
   generalize val ((ofN v).drop (i + 1)) = R at *
   have e5 : w + 18446744073709551616 * R = 2 ^ s' * (2 * (c + 2 ^ (63 - s') * R) + 1) := by
    rw [eB, hc, zkj, ← zkv, zkv 2 c, zkj 2]
    congr 1; omega
   rw [zkF, e5, eP, ← zkj, ← zke] at td
   exact td
  refine ⟨fun z => ?_, fun t m ht => ?_⟩
  ·have : 0 < 2 ^ (64 * i + s') * (2 * (c + 2 ^ (63 - s') * val ((ofN v).drop (i + 1))) + 1) := zkx (zkc Zd) Zo
   omega
  have := Z4e (ht.symm.trans hv)
  rw [this]
theorem ZaJ : 0 < big := by
 have h : ∀ m, 0 < 18446744073709551616 ^ m := pow_pos
 unfold big
 exact h 1024
theorem ZbB (a : List Int) (k : Nat) (ha : Ws a) (na : a.length < 17592186044000) (hk : a.length + 2000 < k) :
  (¬ val a < big → Z13.f k a = some (0, 3)) ∧ (val a = 0 → Z13.f k a = some (0, 0)) ∧ (val a < big → ∀ t m : Nat, val a = 2 ^ t * (2 * m + 1) → Z13.f k a = some ((t : Int), 0)) := by
 unfold Z13.f
 rw [Z3X a k ha Zo Zo, Zc]
 refine ⟨fun h => ?_, fun h => ?_, fun h t m ht => ?_⟩
 ·simp only [if_neg h]
  have := (Z4W 0 3 (by rw [Z0e]; decide) _ 0 k rfl (zkC _) (by rw [Z0e]; simp; omega) (by simp [val])).1 rfl
  rw [Z0e] at this
  exact this
 ·have hb : val a < big := by rw [h]; exact ZaJ
  simp only [if_pos hb]
  have := (Z4W 0 0 (by rw [Z0e]; decide) _ 0 k rfl (zkC _) (by rw [Z0e]; simp; omega) (by simp [val])).1 rfl
  rw [h]
  exact this
 simp only [if_pos h]
 have hl := Z1Y h
 exact (Z4W (val a) 0 hl _ 0 k rfl (zkC _) Zo (by simp [val])).2 t m ht
theorem Z8D (a : List Int) (ha : Ws a) {t m : Nat} (hv : val a = 2 ^ t * (2 * m + 1)) (ht : t < 4611686018427387904) (s : Nat) : ∀ (n k : Nat), t - n = s → n ≤ t → s < k → Z0x.l0 k a n = some (t : Int) := by
 induction s with
 | zero =>
  intro n k hs hn hk
  obtain ⟨k, rfl⟩ : ∃ z, k = z + 1 := ⟨k - 1, by omega⟩
  obtain rfl : n = t := by omega
  have := Z3w n m n (zka _)
  simp only [Z0x.l0]
  rw [Z7r a ha n Zo, Zc, hv, this, if_pos rfl]; rfl
 | succ s ih =>
  intro n k hs hn hk
  obtain ⟨k, rfl⟩ : ∃ z, k = z + 1 := ⟨k - 1, by omega⟩
  have := Z3w t m n hn
  rw [if_neg Zo] at this
  simp only [Z0x.l0]
  rw [Z7r a ha n Zo, Zc, hv, this, if_neg Zd, Z0N Zo]
  exact ih (n + 1) k Zo Zo Zo
theorem ZaK (a : List Int) (k : Nat) (ha : Ws a) {t m : Nat} (hv : val a = 2 ^ t * (2 * m + 1)) (ht : t < 4611686018427387904) (na : a.length < 17592186044000) (hk : a.length + t + 100 < k) : Z0x.f k a = some (t : Int) := by
 unfold Z0x.f
 have hp : 0 < 2 ^ t * (2 * m + 1) := zkx (zkc Zd) Zo
 have hb := Z47 (n := val a) Zo
 rw [Z5F a k ha na Zo, Zc, if_neg Zo]
 exact Z8D a ha hv ht _ 0 k rfl (zkC _) Zo
theorem Z6K {v t m : Nat} (h : v = 2 ^ t * (2 * m + 1)) : t < bl v := by
 have := Z2H v
 refine (Nat.pow_lt_pow_iff_right (a := 2) Zd).1 (zkr ?_ this)
 rw [h]; exact zku _ Zo
theorem Z8E (l : List Int) (hw : Ws l) (hn : l.length < 4611686018427387904) (n : Nat) : ∀ k, n ≤ l.length → n < k → Zt.l0 k l n = some (ofN (val (l.take n))) := by
 induction n with
 | zero =>
  intro k hj hk
  obtain ⟨k, rfl⟩ : ∃ m, k = m + 1 := ⟨k - 1, by omega⟩
  simp only [Zt.l0]
  rw [if_neg Zo, if_pos Zo, if_pos Zo]
  simp [val, Z0e]
 | succ n ih =>
  intro k hj hk
  obtain ⟨k, rfl⟩ : ∃ m, k = m + 1 := ⟨k - 1, by omega⟩
  simp only [Zt.l0]
  have e : wrap64 (((n + 1 : Nat) : Int) - 1) = (n : Int) := by rw [ZU Zo Zo]; omega
  rw [e, if_pos Zo, if_pos Zo, if_pos Zo, Z0M]
  by_cases h : l.getD n 0 = 0
  ·rw [if_pos h, ih k Zo Zo, Z0C l n Zo, h]; simp
  rw [if_neg h, if_pos Zo, if_pos Zo, zk4, ← Z4U hw Zo h]
theorem Z26 (l : List Int) (k : Nat) (hw : Ws l) (hn : l.length < 4611686018427387904) (hk : l.length < k) : Zt.f k l = some (ofN (val l)) := by
 unfold Zt.f
 rw [Z8E l hw hn _ k (zka _) hk, ZP _ _ (zka _)]
theorem Z7s (a : List Int) (k : Nat) (ha : Ws a) (na : a.length < 17592186044000) (hk : a.length + 1 < k) : Z0T.f k a = some ((bl (val a) : Nat) : Int) := by
 unfold Z0T.f
 rw [Z26 a k ha Zo Zo, Zc]
 have hla : (ofN (val a)).length ≤ a.length := (Z1g _ _).2 (Z20 ha)
 by_cases h : val a = 0
 ·have := Z1o.2 h
  rw [if_pos Zo, h, Z1X]; rfl
 obtain ⟨m, w, h1, h2, h3, h4, h5⟩ := Z6G h
 have hb := Z5E h4
 have e1 : wrap64 (((ofN (val a)).length : Int) - 1) = (m : Int) := by rw [ZU Zo Zo]; omega
 have c0 : ¬ ((ofN (val a)).length : Int) = 0 := by clear e1; omega
 have c1 : (m : Int) < ((ofN (val a)).length : Int) := by clear e1; omega
 have e2 : wrap64 (64 * (m : Int)) = ((64 * m : Nat) : Int) := by clear e1; rw [ZU Zo Zo]; omega
 have e3 : wrap64 (((64 * m : Nat) : Int) + ((bl w : Nat) : Int)) = ((64 * m + bl w : Nat) : Int) := by clear e1 e2; rw [ZU Zo Zo]; omega
 rw [if_neg c0, e1, if_pos (zk5 _), if_pos c1, Z0M, h5, Z6I k w h4 Zo, Zc, e2, e3, h2]
theorem Z8F (x y : List Int) (hx : Ws x) (hy : Ws y) (e : x.length = y.length) (hn : x.length < 4611686018427387904) (j : Nat) : ∀ (k : Nat), j ≤ x.length → j < k →
  Z0L.l0 k x y ((j : Int) - 1) = some (Z1E (val (x.take j)) (val (y.take j))) := by
 induction j with
 | zero =>
  intro k hj hk
  obtain ⟨k, rfl⟩ : ∃ m, k = m + 1 := ⟨k - 1, by omega⟩
  simp only [Z0L.l0]
  rw [if_neg Zo]
  simp [val, Z1E]
 | succ j ih =>
  intro k hj hk
  obtain ⟨k, rfl⟩ : ∃ m, k = m + 1 := ⟨k - 1, by omega⟩
  have e0 : ((j + 1 : Nat) : Int) - 1 = (j : Int) := by omega
  have e1 : wrap64 ((j : Int) - 1) = (j : Int) - 1 := ZU Zo Zo
  have q1 := Z0H hx j
  have q2 := Z0H hy j
  have p1 : val (x.take j) < 18446744073709551616 ^ j := Z2d hx j
  have p2 : val (y.take j) < 18446744073709551616 ^ j := Z2d hy j
  simp only [Z0L.l0]
  rw [e0, if_pos Zo, if_pos Zo, if_pos Zo, if_pos Zo, Z0M, Z0M, e1, ih k Zo Zo, Z0C x j Zo, Z0C y j Zo, Z6s p1 p2]
  by_cases a : x.getD j 0 = y.getD j 0
  ·rw [if_pos a, a, if_neg Zo, if_neg Zo]
  rw [if_neg a]
  by_cases b : x.getD j 0 < y.getD j 0
  ·rw [if_pos b, if_pos Zo]
  rw [if_neg b, if_neg Zo, if_pos Zo]
theorem Z7t (a b : List Int) (k : Nat) (ha : Ws a) (hb : Ws b) (na : a.length < 17592186044000) (nb : b.length < 17592186044000) (hk : a.length + b.length < k) : Z0L.f k a b = some (Z1E (val a) (val b)) := by
 unfold Z0L.f
 rw [Z26 a k ha Zo Zo, Zc, Z26 b k hb Zo Zo, Zc]
 have hla : (ofN (val a)).length ≤ a.length := (Z1g _ _).2 (Z20 ha)
 by_cases e : (ofN (val a)).length = (ofN (val b)).length
 ·have w : wrap64 (((ofN (val a)).length : Int) - 1) = ((ofN (val a)).length : Int) - 1 := ZU Zo Zo
  rw [if_pos Zo, w, Z8F _ _ (ZT _) (ZT _) e Zo _ k (zka _) Zo, ZP _ _ (zka _), ZP _ _ Zo, Zy, Zy]
 rw [if_neg Zo]
 by_cases l : (ofN (val a)).length < (ofN (val b)).length
 ·have := Z4Q l
  rw [if_pos Zo]; unfold Z1E; rw [if_pos this]
 have := Z4Q (show (ofN (val b)).length < (ofN (val a)).length by omega)
 rw [if_neg Zo]; unfold Z1E; rw [if_neg Zo, if_neg Zo]
theorem Z8G (k : Nat) : ∀ a b o c n j, Z03.l0 k a b o c n j = Z03.l100 k a b o c n j := by
 induction k with
 | zero => intro a b o c n j; simp only [Z03.l0, Z03.l100]
 | succ k ih => intro a b o c n j; simp only [Z03.l0, Z03.l100, ih]
theorem Z5Y (a b : List Int) (ha : Ws a) (hb : Ws b) (na : a.length < 4611686018427387900) (nb : b.length ≤ a.length) (r : Nat) : ∀ (j : Nat) (k : Nat) (o : List Int) (c : Nat), a.length - j = r → j ≤ a.length → r + a.length + 2 < k → o.length = a.length + 1 → Ws o → c ≤ 1 →
  val (o.take j) + 18446744073709551616 ^ j * c = val (a.take j) + val (b.take j) →
  Z03.l100 k a b o c a.length j = some (ofN (val a + val b)) := by
 induction r with
 | zero =>
  intro j k o c hr hj hk ho hw hc hv
  obtain ⟨k, rfl⟩ : ∃ m, k = m + 1 := ⟨k - 1, by omega⟩
  obtain rfl : j = a.length := by omega
  simp only [Z03.l100]
  rw [if_neg Zo, if_pos Zo, if_pos Zo, zk4]
  rw [Z26 _ k (Z2Y hw _ Zo Zo) (by rw [zki]; omega) (by rw [zki]; omega), Zc]
  have e := Z21 o a.length (c : Int) Zo
  rw [ZP _ (a.length + 1) (by rw [zki]; omega), zk4] at e
  rw [ZP a _ (zka _), ZP b _ nb] at hv
  rw [e, hv]
 | succ r ih =>
  intro j k o c hr hj hk ho hw hc hv
  obtain ⟨k, rfl⟩ : ∃ m, k = m + 1 := ⟨k - 1, by omega⟩
  simp only [Z03.l100]
  have i5 : ¬ (j : Int) < (b.length : Int) → 0 = b.getD j 0 := fun h => (Z2g _ _ Zo).symm
  have i4 : j < o.length := by omega
  have i1 : a.length - (j + 1) = r := by omega
  have i2 : j + 1 ≤ a.length := by omega
  have i3 : r + a.length + 2 < k := by omega
  have pa := Z0H ha j; have pb := Z0H hb j
  have t1 : (j : Int) < (a.length : Int) := by omega
  have t2 : (0 : Int) ≤ (j : Int) := by omega
  have t3 : (c : Int) ≤ 1 := by omega
  have t4 : (j : Int) < (o.length : Int) := by omega
  have wj : wrap64 ((j : Int) + 1) = ((j + 1 : Nat) : Int) := by rw [ZU Zo Zo]; omega
  have key : ∀ y : Int, 0 ≤ y → y < 18446744073709551616 → y = b.getD j 0 →
    Z03.l100 k a b (o.set j (add64s (a.getD j 0) y c)) (add64c (a.getD j 0) y c) a.length ((j + 1 : Nat) : Int) = some (ofN (val a + val b)) := by
   intro y y0 y1 hy
   obtain ⟨d, hd, ed⟩ := Zat (x := a.getD j 0) (y := y) (c := c) pa.2 y1 hc
   rw [ed]
   have hs : (add64s (a.getD j 0) y c).toNat + 18446744073709551616 * d = (a.getD j 0).toNat + y.toNat + c := by
    rw [Z9q]; rw [Zcp] at ed
    simp only [zk4] at ed ⊢
    omega
   refine ih (j + 1) k _ d i1 i2 i3 (by rw [zki]; exact ho) (Z2Y hw _ (Zar _ _ _) (Zas _ _ _)) hd ?_
   rw [Z21 o j _ i4, Z0h a, Z0h b, ← hy, zkp]
   exact Z4b hs hv
  rw [if_pos t1]
  by_cases h : (j : Int) < (b.length : Int)
  ·rw [if_pos h, if_pos t2, if_pos t1, if_pos t3, if_pos t4, Z0M, Z0M, zk4, wj]; exact key _ pb.1 pb.2 rfl
  rw [if_neg h, if_pos t2, if_pos t1, if_pos t3, if_pos t4, Z0M, zk4, wj]; exact key 0 (Int.le_refl 0) Zd (i5 h)
theorem ZaL (a b : List Int) (ha : Ws a) (hb : Ws b) (na : a.length < 17592186044000) (nb : b.length < 17592186044000) (k : Nat) (hk : 2 * (a.length + b.length) + 3 < k) : Z03.f k a b = some (ofN (val a + val b)) := by
 have z : ∀ n, val ((List.replicate n (0 : Int)).take 0) + 18446744073709551616 ^ 0 * 0 = 0 := fun n => by simp [val]
 unfold Z03.f
 by_cases h : (a.length : Int) < (b.length : Int)
 ·have w : wrap64 ((b.length : Int) + 1) = ((b.length + 1 : Nat) : Int) := by rw [ZU Zo Zo]; omega
  rw [if_pos h, w, if_pos Zo, zk4, if_pos Zo, Z8G]
  have t := Z5Y b a hb ha Zo Zo b.length 0 k (List.replicate (b.length + 1) 0) 0 Zo Zo Zo (by simp) (Z1J _) Zo (by simp [val])
  rw [zkK (val a)]; exact t
 have w : wrap64 ((a.length : Int) + 1) = ((a.length + 1 : Nat) : Int) := by rw [ZU Zo Zo]; omega
 rw [if_neg h, w, if_pos Zo, zk4, if_pos Zo]
 exact Z5Y a b ha hb Zo Zo a.length 0 k (List.replicate (a.length + 1) 0) 0 Zo Zo Zo (by simp) (Z1J _) Zo (by simp [val])
theorem Z8H (a b : List Int) (ha : Ws a) (hb : Ws b) (na : a.length < 4611686018427387904) (hle : val b ≤ val a) (hl : b.length ≤ a.length) (r : Nat) : ∀ (j : Nat) (k : Nat) (o : List Int) (c : Nat), a.length - j = r → j ≤ a.length → r + a.length + 2 < k → o.length = a.length → Ws o → c ≤ 1 →
  val (a.take j) + 18446744073709551616 ^ j * c = val (o.take j) + val (b.take j) →
  Z0G.l0 k a b o c a.length j = some (ofN (val a - val b)) := by
 induction r with
 | zero =>
  intro j k o c hr hj hk ho hw hc hv
  obtain ⟨k, rfl⟩ : ∃ m, k = m + 1 := ⟨k - 1, by omega⟩
  obtain rfl : j = a.length := by omega
  simp only [Z0G.l0]
  rw [if_neg Zo, Z26 _ k hw Zo Zo, Zc]
  have := Z20 hw
  rw [ho] at this
  rw [ZP _ _ Zo, ZP _ _ Zo, ZP _ _ Zo] at hv
  generalize 18446744073709551616 ^ a.length = p at *
  have : c = 0 := by
   rcases Nat.lt_or_ge c 1 with h | h
   ·omega
   have : c = 1 := by omega
   subst this; omega
  subst this
  rw [Nat.mul_zero] at hv
  congr 2; omega
 | succ r ih =>
  intro j k o c hr hj hk ho hw hc hv
  obtain ⟨k, rfl⟩ : ∃ m, k = m + 1 := ⟨k - 1, by omega⟩
  simp only [Z0G.l0]
  have i5 : ¬ (j : Int) < (b.length : Int) → 0 = b.getD j 0 := fun h => (Z2g _ _ Zo).symm
  have i4 : j < o.length := by omega
  have i1 : a.length - (j + 1) = r := by omega
  have i2 : j + 1 ≤ a.length := by omega
  have i3 : r + a.length + 2 < k := by omega
  have pa := Z0H ha j; have pb := Z0H hb j
  have t1 : (j : Int) < (a.length : Int) := by omega
  have t2 : (0 : Int) ≤ (j : Int) := by omega
  have t3 : (c : Int) ≤ 1 := by omega
  have t4 : (j : Int) < (o.length : Int) := by omega
  have wj : wrap64 ((j : Int) + 1) = ((j + 1 : Nat) : Int) := Z0N Zo
  have key : ∀ y : Int, 0 ≤ y → y < 18446744073709551616 → y = b.getD j 0 →
    Z0G.l0 k a b (o.set j (sub64s (a.getD j 0) y c)) (sub64c (a.getD j 0) y c) a.length ((j + 1 : Nat) : Int) = some (ofN (val a - val b)) := by
   intro y y0 y1 hy
   obtain ⟨d, hd, ed, hs⟩ := Z9w pa.1 pa.2 y0 y1 hc
   rw [ed]
   refine ih (j + 1) k _ d i1 i2 i3 (by rw [zki]; exact ho) (Z2Y hw _ (Zaw _ _ _) (Zax _ _ _)) hd ?_
   rw [Z21 o j _ i4, Z0h a, Z0h b, ← hy, zkp]
   exact Z4b hs hv
  rw [if_pos t1]
  by_cases h : (j : Int) < (b.length : Int)
  ·rw [if_pos h, if_pos t2, if_pos t1, if_pos t3, if_pos t4, Z0M, Z0M, zk4, wj]; exact key _ pb.1 pb.2 rfl
  rw [if_neg h, if_pos t2, if_pos t1, if_pos t3, if_pos t4, Z0M, zk4, wj]; exact key 0 (Int.le_refl 0) Zd (i5 h)
theorem Z7u (a b : Nat) (h : b ≤ a) (k : Nat) (na : (ofN a).length < 17592186044000) (hk : 2 * (ofN a).length + 3 < k) : Z0G.f k (ofN a) (ofN b) = some (ofN (a - b)) := by
 unfold Z0G.f
 rw [if_pos Zo, zk4, if_pos Zo]
 have t := Z8H (ofN a) (ofN b) (ZT a) (ZT b) Zo (by rw [Zy, Zy]; exact h) (Z2b h) (ofN a).length 0 k (List.replicate (ofN a).length 0) 0 Zo Zo Zo (by simp) (Z1J _) Zo (by simp [val])
 rw [Zy, Zy] at t; exact t
theorem Z8I {a b : Nat} (h : a + b < 4611686018427387904) : wrap64 ((a : Int) + (b : Int)) = ((a + b : Nat) : Int) := by rw [ZU Zo Zo]; omega
def Q64 (n q : Nat) : Prop := wrap64 (Int.tdiv (n : Int) 64) = (q : Int)
theorem Z8J (n : Nat) (a : List Int) (ha : Ws a) (q s : Nat) (e1 : Q64 n q) (hs : s < 64) (na : a.length + q < 35184372088000) (r : Nat) : ∀ (j k : Nat) (o : List Int) (c : Nat), a.length - j = r → j ≤ a.length → r + a.length + q + 3 < k → o.length = a.length + q + 1 → Ws o → c < 2 ^ s → o.getD (q + j) 0 = c → (∀ i, q + j < i → o.getD i 0 = 0) →
  val (o.take (q + j)) + 18446744073709551616 ^ (q + j) * c = 18446744073709551616 ^ q * (val (a.take j) * 2 ^ s) →
  Z02.l0 k n o s a a.length j = some (ofN (18446744073709551616 ^ q * (val a * 2 ^ s))) := by
 have h2 : 2 ^ s ≤ 18446744073709551616 := by rw [← Z0O (show s ≤ 64 by omega)]; exact zku _ (zkc Zd)
 induction r with
 | zero =>
  intro j k o c hr hj hk ho hw hc hg hz hv
  obtain ⟨k, rfl⟩ : ∃ m, k = m + 1 := ⟨k - 1, by omega⟩
  obtain rfl : j = a.length := by omega
  simp only [Z02.l0]
  rw [if_neg Zo, Z26 _ k hw Zo Zo, Zc]
  have e := Z0C o (q + a.length) Zo
  rw [hg, zk4, hv, ZP _ _ Zo, ZP _ _ (zka _)] at e
  rw [e]
 | succ r ih =>
  intro j k o c hr hj hk ho hw hc hg hz
  obtain ⟨k, rfl⟩ : ∃ m, k = m + 1 := ⟨k - 1, by omega⟩
  have i1 : a.length - (j + 1) = r := by omega
  have i2 : j + 1 ≤ a.length := by omega
  have i3 : r + a.length + q + 3 < k := by omega
  have i4 : q + j + 1 < o.length := by omega
  have b1 : j + q < 4611686018427387904 := by omega
  have b2 : q + j < 4611686018427387904 := by omega
  have b3 : j < 4611686018427387904 := by omega
  have g1 : (j : Int) < (a.length : Int) := by omega
  have g2 : ((q + j : Nat) : Int) < (o.length : Int) := by omega
  have g3 : ((q + j + 1 : Nat) : Int) < (o.length : Int) := by omega
  have hs' : s ≤ 64 := by omega
  have l0 : 2 ^ s ≤ 18446744073709551616 := h2
  have hz' : ∀ i, q + (j + 1) < i → q + j < i ∧ q + j + 1 ≠ i ∧ q + j ≠ i := fun i hi => by omega
  have hq1 : q + j < q + j + 1 := by omega
  intro hv
  simp only [Z02.l0]
  rw [if_pos g1, if_pos (zk5 _), if_pos g1, show wrap64 (Int.tdiv (n : Int) 64) = (q : Int) from e1, Z8I b2, Z0N b2, if_pos (zk5 _), if_pos g2, if_pos (zk5 _), Z0N b3]
  simp only [Z0M, zk4]
  obtain ⟨p0, p1⟩ := Z0H ha j
  have ew := Z2o p0
  generalize hwn : (a.getD j 0).toNat = w at ew
  have w1 : w < 18446744073709551616 := zkt.1 (ew ▸ p1)
  rw [ew, hg, Z5D hs' hc, Zc]
  have l1 := Z4q (w := w) hs' hc
  have e := (Z2j (w := w) (s := s) hs').2
  have key : ∀ d : Nat, d = w / 2 ^ (64 - s) → Z02.l0 k n ((o.set (q + j) ((w * 2 ^ s % 18446744073709551616 + c : Nat) : Int)).set (q + j + 1) (d : Int)) s a a.length ((j + 1 : Nat) : Int) = some (ofN (18446744073709551616 ^ q * (val a * 2 ^ s))) := by
   intro d hd
   have l2 : d < 2 ^ s := by rw [hd]; exact Z4r hs' w1
   refine ih (j + 1) k _ d i1 i2 i3 (by rw [zki, zki]; exact ho) (Z2Y (Z2Y hw _ (zk5 _) (zkt.2 l1)) _ (zk5 _) (zkt.2 (zkn l2 h2))) l2 ?_ ?_ ?_
   ·exact Nm.Z2q _ _ _ (by rw [zki]; exact i4)
   ·intro i hi
    obtain ⟨z1, z2, z3⟩ := hz' i hi
    rw [Nm.Z1V _ _ _ _ z2, Nm.Z1V _ _ _ _ z3]
    exact hz i z1
   rw [← hd] at e
   have := Z0C ((o.set (q + j) ((w * 2 ^ s % 18446744073709551616 + c : Nat) : Int)).set (q + j + 1) (d : Int)) (q + j + 1) (by rw [zki, zki]; exact i4)
   rw [Z6E _ _ _ _ i4, Nm.Z2q _ _ _ (by rw [zki]; exact i4), zk4] at this
   have e3 : q + (j + 1) = q + j + 1 := rfl
   rw [e3]
   rw [← this, Z0h a, hwn, zkp, zke]
   rw [zke] at hv
   exact Z4V e hv
  by_cases h : (s : Int) > 0
  ·have hs64 : 64 - s ≤ 64 := by omega
   have e64 : wrap64 (64 - (s : Int)) = ((64 - s : Nat) : Int) := by rw [ZU Zo Zo]; omega
   rw [if_pos h, e64, if_pos (zk5 _), if_pos (zk5 _), if_pos g3, Z2Z _ _ hs64]
   exact key _ rfl
  have : s = 0 := by omega
  rw [if_neg h]
  have k0 := key 0 (by subst this; rw [zkA (show w < 2 ^ (64 - 0) from w1)])
  have same : ((o.set (q + j) ((w * 2 ^ s % 18446744073709551616 + c : Nat) : Int)).set (q + j + 1) ((0 : Nat) : Int)) = o.set (q + j) ((w * 2 ^ s % 18446744073709551616 + c : Nat) : Int) := by
   have h0 := hz (q + j + 1) hq1
   refine List.ext_getElem (by simp) fun i g1 g2 => ?_
   by_cases hi : i = q + j + 1
   ·subst hi
    rw [List.getElem_set_self, List.getElem_set_ne Zo]
    rw [List.getD_eq_getElem?_getD, List.getElem?_eq_getElem i4] at h0
    exact h0.symm
   rw [List.getElem_set_ne Zo]
  rw [same] at k0
  exact k0
theorem Z7v (a : List Int) (n k : Nat) (ha : Ws a) (hn : n < 4611686018427387904) (na : a.length + n / 64 < 17592186044000) (hk : 3 * a.length + n / 64 + 10 < k) : Z02.f k a n = some (ofN (val a * 2 ^ n)) := by
 unfold Z02.f
 have hla : (ofN (val a)).length ≤ a.length := (Z1g _ _).2 (Z20 ha)
 rw [Z26 a k ha Zo Zo, Zc]
 by_cases h : val a = 0
 ·have := Z1o.2 h
  rw [if_pos Zo, h, zkB, Z0e]
 have hl : (ofN (val a)).length ≠ 0 := fun z => h (Z1o.1 z)
 have f1 : n % 64 < 64 := by omega
 have f2 : (ofN (val a)).length + n / 64 < 35184372088000 := by omega
 have f3 : (ofN (val a)).length + (ofN (val a)).length + n / 64 + 3 < k := by omega
 have c1 : (ofN (val a)).length + n / 64 + 1 ≤ 35184372088832 := by omega
 have c2 : ¬ (((ofN (val a)).length : Int) = 0) := by omega
 have b1 : n / 64 + (ofN (val a)).length + 1 < 4611686018427387904 := by omega
 have e1 : Q64 n (n / 64) := by
  unfold Q64
  rw [zko Zo, ZU Zo Zo]; omega
 have t := Z8J n (ofN (val a)) (ZT _) (n / 64) (n % 64) e1 f1 f2 _ 0 k (List.replicate ((ofN (val a)).length + n / 64 + 1) 0) 0 rfl (zkC _) (by rw [Nat.sub_zero]; exact f3) (by simp) (Z1J _) (zkc Zd) (by rw [Z4c]; rfl) (fun i _ => Z4c _ _) (by simp [Z3o, val])
 rw [Zy] at t
 have e2 : Int.tmod (n : Int) 64 = ((n % 64 : Nat) : Int) := by
  clear t e1
  rw [zks Zo]; omega
 have e3 : wrap64 ((wrap64 (((n / 64 : Nat) : Int) + ((ofN (val a)).length : Int))) + 1) = (((ofN (val a)).length + n / 64 + 1 : Nat) : Int) := by
  clear t e1 e2 hn na hk f1 f2 f3 c1 hla
  generalize n / 64 = q at *
  generalize (ofN (val a)).length = m at *
  rw [ZU (x := (q : Int) + (m : Int)) Zo Zo, ZU Zo Zo]; omega
 rw [if_neg c2, show wrap64 (Int.tdiv (n : Int) 64) = ((n / 64 : Nat) : Int) from e1, e2, e3, if_pos (zk5 _), zk4, if_pos c1, Z4s n, Nat.mul_left_comm]
 exact t
theorem Z8K (v : Nat) (hl : (ofN v).length < 4503599627370496) (s : Nat) : ∀ (i k : Nat), (ofN v).length - i = s → i ≤ (ofN v).length → s < k → val ((ofN v).take i) = 0 →
  (v = 0 → Z0w.l0 k (ofN v) (ofN v).length i = some 0) ∧ (∀ t m : Nat, v = 2 ^ t * (2 * m + 1) → Z0w.l0 k (ofN v) (ofN v).length i = some (t : Int)) := by
 induction s with
 | zero =>
  intro i k hs hi hk hz
  obtain ⟨k, rfl⟩ : ∃ z, k = z + 1 := ⟨k - 1, by omega⟩
  obtain rfl : i = (ofN v).length := by omega
  rw [ZP _ _ (zka _), Zy] at hz
  have g : Z0w.l0 (k + 1) (ofN v) (ofN v).length ((ofN v).length : Nat) = some 0 := by
   simp only [Z0w.l0]; rw [if_neg Zo]
  refine ⟨fun _ => g, fun t m ht => ?_⟩
  have : 0 < 2 ^ t * (2 * m + 1) := zkx (zkc Zd) Zo
  omega
 | succ s ih =>
  intro i k hs hi hk hz
  obtain ⟨k, rfl⟩ : ∃ z, k = z + 1 := ⟨k - 1, by omega⟩
  have i1 : (ofN v).length - (i + 1) = s := by omega
  have i2 : i + 1 ≤ (ofN v).length := by omega
  have i3 : s < k := by omega
  have g1 : (i : Int) < ((ofN v).length : Int) := by omega
  have b3 : i < 4611686018427387904 := by omega
  have i5 : i < (ofN v).length := by omega
  obtain ⟨p0, p1⟩ := Z0H (ZT v) i
  have ew := Z2o p0
  have ts := Z0C (ofN v) i i5
  have td := Z2G (ofN v) i (zky i5)
  have vd := Z3E (ofN v) i i5
  rw [hz] at ts td
  rw [Zy, vd] at td
  simp only [Z0w.l0]
  rw [if_pos g1, if_pos (zk5 _), if_pos g1, Z0M]
  generalize hwn : ((ofN v).getD i 0).toNat = w at *
  by_cases h : w = 0
  ·have := ih (i + 1) k i1 i2 i3 (by rw [ts, h]; simp)
   rw [if_pos (by rw [ew, h]; rfl), Z0N b3]
   exact this
  have w1 : w < 18446744073709551616 := zkt.1 (ew ▸ p1)
  obtain ⟨s', c, hc⟩ := Z1F w h
  obtain ⟨tz, ts64⟩ := Z6J hc w1
  have e2 : wrap64 (64 * (i : Int)) = ((64 * i : Nat) : Int) := by rw [ZU Zo Zo]; omega
  have e3 : wrap64 (((64 * i : Nat) : Int) + (s' : Int)) = ((64 * i + s' : Nat) : Int) := by clear e2; rw [ZU Zo Zo]; omega
  have hw0 : ¬ (w : Int) = 0 := by clear e2 e3; omega
  rw [ew, if_neg hw0, tz, Zc, e2, e3]
  clear e2 e3
  have hv : v = 2 ^ (64 * i + s') * (2 * (c + 2 ^ (63 - s') * val ((ofN v).drop (i + 1))) + 1) := by
   have eB : (18446744073709551616 : Nat) = 2 ^ s' * (2 * 2 ^ (63 - s')) := by
    have := Z0O (show s' ≤ 64 by omega)
    have e3 : 64 - s' = (63 - s') + 1 := by omega
    rw [e3, zkp, zkw _ 2] at this
    exact this.symm
   have eP : (18446744073709551616 : Nat) ^ i = 2 ^ (64 * i) := by rw [zkD]
   generalize val ((ofN v).drop (i + 1)) = R at *
   have e5 : w + 18446744073709551616 * R = 2 ^ s' * (2 * (c + 2 ^ (63 - s') * R) + 1) := by
    rw [eB, hc, zkj, ← zkv, zkv 2 c, zkj 2]
    congr 1; omega
   rw [zkF, e5, eP, ← zkj, ← zke] at td
   exact td
  refine ⟨fun z => ?_, fun t m ht => ?_⟩
  ·have : 0 < 2 ^ (64 * i + s') * (2 * (c + 2 ^ (63 - s') * val ((ofN v).drop (i + 1))) + 1) := zkx (zkc Zd) Zo
   omega
  have := Z4e (ht.symm.trans hv)
  rw [this]
theorem Z7w (v k : Nat) (hl : (ofN v).length < 4503599627370496) (hk : (ofN v).length < k) : (v = 0 → Z0w.f k (ofN v) = some 0) ∧ (∀ t m : Nat, v = 2 ^ t * (2 * m + 1) → Z0w.f k (ofN v) = some (t : Int)) := by
 unfold Z0w.f
 exact Z8K v hl (ofN v).length 0 k Zo (zkC _) hk (by simp [val])
end Go.Proofs.YtnjfckadjklmfaaDoor.Nf
