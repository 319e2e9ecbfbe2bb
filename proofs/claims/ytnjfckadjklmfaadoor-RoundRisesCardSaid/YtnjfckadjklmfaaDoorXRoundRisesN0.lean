/- Plain part. -/
import Derived.Test.YtnjfckadjklmfaaDoorXRoundRisesP0
import Derived.Test.YtnjfckadjklmfaaDoorXRoundRisesP12
import Derived.Test.YtnjfckadjklmfaaDoorXRoundRisesP21
import Derived.Test.YtnjfckadjklmfaaDoorXRoundRisesP23
import Derived.Laws.BitsAllLaws
namespace Go.Proofs.YtnjfckadjklmfaaDoor.Nm
set_option linter.unusedVariables false
def val : List Int → Nat
 | [] => 0
 | w :: l => w.toNat + 18446744073709551616 * val l
def Ws (l : List Int) : Prop := ∀ x ∈ l, 0 ≤ x ∧ x < 18446744073709551616
def Nrm : List Int → Prop
 | [] => True
 | [w] => w ≠ 0
 | _ :: l => Nrm l
def ofN (n : Nat) : List Int := if n = 0 then [] else ((n % 18446744073709551616 : Nat) : Int) :: ofN (n / 18446744073709551616)
termination_by n
decreasing_by omega
theorem ofN_zero : ofN 0 = [] := by unfold ofN; simp
theorem ofN_pos {n : Nat} (h : n ≠ 0) : ofN n = ((n % 18446744073709551616 : Nat) : Int) :: ofN (n / 18446744073709551616) := by
 rw [ofN]; simp [h]
theorem ws_nil : Ws [] := fun _ h => by cases h
theorem ws_cons {w : Int} {l : List Int} : Ws (w :: l) ↔ (0 ≤ w ∧ w < 18446744073709551616) ∧ Ws l := by
 unfold Ws; simp
theorem ws_append {a b : List Int} : Ws (a ++ b) ↔ Ws a ∧ Ws b := by
 unfold Ws; simp only [List.mem_append]
 constructor
 ·intro h; exact ⟨fun x hx => h x (.inl hx), fun x hx => h x (.inr hx)⟩
 rintro ⟨h, g⟩ x (hx | hx)
 ·exact h x hx
 exact g x hx
theorem ws_take {l : List Int} (h : Ws l) (n : Nat) : Ws (l.take n) := fun x hx => h x (List.mem_of_mem_take hx)
theorem ws_drop {l : List Int} (h : Ws l) (n : Nat) : Ws (l.drop n) := fun x hx => h x (List.mem_of_mem_drop hx)
theorem ws_set {l : List Int} (h : Ws l) (i : Nat) {w : Int} (h0 : 0 ≤ w) (h1 : w < 18446744073709551616) : Ws (l.set i w) := by
 intro x hx
 rcases List.mem_or_eq_of_mem_set hx with hx | rfl
 ·exact h x hx
 exact ⟨h0, h1⟩
theorem ws_replicate (n : Nat) : Ws (List.replicate n 0) := by
 intro x hx
 obtain ⟨_, rfl⟩ := List.mem_replicate.1 hx
 omega
theorem ws_get {l : List Int} (h : Ws l) (i : Nat) : 0 ≤ l.getD i 0 ∧ l.getD i 0 < 18446744073709551616 := by
 by_cases hi : i < l.length
 ·rw [List.getD_eq_getElem?_getD, List.getElem?_eq_getElem hi]
  exact h _ (List.getElem_mem hi)
 rw [List.getD_eq_getElem?_getD, List.getElem?_eq_none (by omega)]
 simp
theorem val_nil : val [] = 0 := rfl
theorem val_cons (w : Int) (l : List Int) : val (w :: l) = w.toNat + 18446744073709551616 * val l := rfl
theorem val_append (a b : List Int) : val (a ++ b) = val a + 18446744073709551616 ^ a.length * val b := by
 induction a with
 | nil => simp [val]
 | cons w a ih =>
  rw [List.cons_append, val_cons, val_cons, ih, List.length_cons, Nat.pow_succ, Nat.mul_add, ← Nat.add_assoc]
  congr 1
  rw [← Nat.mul_assoc, Nat.mul_comm 18446744073709551616 (18446744073709551616 ^ a.length), Nat.mul_assoc]
theorem val_replicate (n : Nat) : val (List.replicate n 0) = 0 := by
 induction n with
 | zero => rfl
 | succ n ih => rw [List.replicate_succ, val_cons, ih]; rfl
theorem val_lt {l : List Int} (h : Ws l) : val l < 18446744073709551616 ^ l.length := by
 induction l with
 | nil => simp [val]
 | cons w l ih =>
  obtain ⟨hw, hl⟩ := ws_cons.1 h
  have := ih hl
  rw [val_cons, List.length_cons, Nat.pow_succ]
  generalize 18446744073709551616 ^ l.length = p at *
  omega
theorem val_take_succ (l : List Int) (i : Nat) (hi : i < l.length) : val (l.take (i + 1)) = val (l.take i) + 18446744073709551616 ^ i * (l.getD i 0).toNat := by
 rw [List.take_succ_eq_append_getElem hi, val_append, List.length_take, Nat.min_eq_left (by omega), List.getD_eq_getElem?_getD, List.getElem?_eq_getElem hi]
 simp [val]
theorem val_take_ge (l : List Int) (i : Nat) (hi : l.length ≤ i) : val (l.take i) = val l := by rw [List.take_of_length_le hi]
theorem val_take_drop (l : List Int) (i : Nat) (hi : i ≤ l.length) : val l = val (l.take i) + 18446744073709551616 ^ i * val (l.drop i) := by
 conv => lhs; rw [← List.take_append_drop i l]
 rw [val_append, List.length_take, Nat.min_eq_left hi]
theorem val_set_take (l : List Int) (i : Nat) (w : Int) (hi : i < l.length) : val ((l.set i w).take (i + 1)) = val (l.take i) + 18446744073709551616 ^ i * w.toNat := by
 rw [val_take_succ _ _ (by rw [List.length_set]; exact hi), List.take_set_of_le (Nat.le_refl i)]
 simp [hi]
theorem getD_set_ne (l : List Int) (i j : Nat) (w : Int) (h : i ≠ j) : (l.set i w).getD j 0 = l.getD j 0 := by
 simp [List.getD_eq_getElem?_getD, List.getElem?_set_ne h]
theorem getD_set_eq (l : List Int) (i : Nat) (w : Int) (h : i < l.length) : (l.set i w).getD i 0 = w := by
 simp [List.getD_eq_getElem?_getD, h]
theorem getD_ge (l : List Int) (i : Nat) (h : l.length ≤ i) : l.getD i 0 = 0 := by
 rw [List.getD_eq_getElem?_getD, List.getElem?_eq_none h]; rfl
theorem take_succ_getD (l : List Int) (i : Nat) : val (l.take (i + 1)) = val (l.take i) + 18446744073709551616 ^ i * (l.getD i 0).toNat := by
 by_cases h : i < l.length
 ·exact val_take_succ l i h
 rw [getD_ge _ _ (by omega), val_take_ge _ _ (by omega), val_take_ge _ _ (by omega)]; simp
theorem val_ofN (n : Nat) : val (ofN n) = n := by
 induction n using Nat.strongRecOn with
 | _ n ih =>
  by_cases h : n = 0
  ·subst h; rw [ofN_zero]; rfl
  rw [ofN_pos h, val_cons, ih _ (by omega)]; simp only [Int.toNat_natCast]; omega
theorem ws_ofN (n : Nat) : Ws (ofN n) := by
 induction n using Nat.strongRecOn with
 | _ n ih =>
  by_cases h : n = 0
  ·subst h; rw [ofN_zero]; exact ws_nil
  rw [ofN_pos h]; exact ws_cons.2 ⟨by omega, ih _ (by omega)⟩
theorem nrm_pos {w : Int} {l : List Int} (hw : Ws (w :: l)) (hn : Nrm (w :: l)) : val (w :: l) ≠ 0 := by
 induction l generalizing w with
 | nil =>
  have := (ws_cons.1 hw).1
  have hn' : w ≠ 0 := hn
  rw [val_cons, val_nil]; omega
 | cons v l ih =>
  have h2 : Nrm (v :: l) := hn
  have := ih (ws_cons.1 hw).2 h2
  rw [val_cons]; omega
theorem eq_ofN {l : List Int} (hw : Ws l) (hn : Nrm l) : l = ofN (val l) := by
 induction l with
 | nil => rw [val_nil, ofN_zero]
 | cons w l ih =>
  have h0 := nrm_pos hw hn
  obtain ⟨h1, h2⟩ := ws_cons.1 hw
  rw [ofN_pos h0]
  have hl : Nrm l := by
   cases l with
   | nil => trivial
   | cons v l => exact hn
  have e1 : ((val (w :: l) % 18446744073709551616 : Nat) : Int) = w := by rw [val_cons]; omega
  have e2 : val (w :: l) / 18446744073709551616 = val l := by rw [val_cons]; omega
  rw [e1, e2, ← ih h2 hl]
theorem ofN_len (n m : Nat) : (ofN n).length ≤ m ↔ n < 18446744073709551616 ^ m := by
 induction m generalizing n with
 | zero =>
  by_cases h : n = 0
  ·subst h; rw [ofN_zero]; simp
  rw [ofN_pos h]; simp; omega
 | succ m ih =>
  by_cases h : n = 0
  ·subst h; rw [ofN_zero]; simp; exact Nat.pow_pos (by decide)
  rw [ofN_pos h, List.length_cons, Nat.pow_succ]
  have := ih (n / 18446744073709551616)
  rw [Nat.div_lt_iff_lt_mul (by decide)] at this
  omega
theorem nrm_of_last {l : List Int} {w : Int} (h : w ≠ 0) : Nrm (l ++ [w]) := by
 induction l with
 | nil => exact h
 | cons v l ih =>
  cases l with
  | nil => exact h
  | cons u l => exact ih
def cmpI (a b : Nat) : Int := if a < b then -1 else if a = b then 0 else 1
theorem pow_pos (n : Nat) : 0 < 18446744073709551616 ^ n := Nat.pow_pos (by decide)
theorem lex_lt {p a b x y : Nat} (ha : a < p) (h : x < y) : a + p * x < b + p * y := by
 have : p * (x + 1) ≤ p * y := Nat.mul_le_mul_left p h
 rw [Nat.mul_add] at this
 omega
theorem cmpI_top {p a b x y : Nat} (ha : a < p) (hb : b < p) : cmpI (a + p * x) (b + p * y) = if x < y then -1 else if x > y then 1 else cmpI a b := by
 unfold cmpI
 by_cases h : x < y
 ·have := lex_lt (b := b) ha h
  rw [if_pos this, if_pos h]
 rw [if_neg h]
 by_cases g : x > y
 ·have := lex_lt (b := a) hb g
  rw [if_neg (by omega), if_neg (by omega), if_pos g]
 have : x = y := by omega
 subst this
 rw [if_neg g]
 by_cases c : a < b
 ·rw [if_pos c, if_pos (by omega)]
 rw [if_neg c, if_neg (by omega)]
 by_cases d : a = b
 ·rw [if_pos d, if_pos (by omega)]
 rw [if_neg d, if_neg (by omega)]
theorem cmpI_len {a b : Nat} (h : (ofN a).length < (ofN b).length) : a < b := by
 have h1 := (ofN_len a (ofN a).length).1 (Nat.le_refl _)
 have h2 : ¬ b < 18446744073709551616 ^ (ofN a).length := fun g => by
  have := (ofN_len b (ofN a).length).2 g
  omega
 omega
def big : Nat := 18446744073709551616 ^ 1024
theorem ofN_big (v : Nat) : (ofN v).length ≤ 1024 ↔ v < big := by unfold big; exact ofN_len v 1024
end Go.Proofs.YtnjfckadjklmfaaDoor.Nm

namespace Go.Proofs.YtnjfckadjklmfaaDoor.Nm
set_option linter.unusedVariables false
def bl (n : Nat) : Nat := if n = 0 then 0 else bl (n / 2) + 1
termination_by n
decreasing_by omega
theorem bl_zero : bl 0 = 0 := by unfold bl; simp
theorem bl_pos {n : Nat} (h : n ≠ 0) : bl n = bl (n / 2) + 1 := by rw [bl]; simp [h]
theorem bl_spec (n : Nat) : n < 2 ^ bl n ∧ (n ≠ 0 → 2 ^ bl n ≤ 2 * n) := by
 induction n using Nat.strongRecOn with
 | _ n ih =>
  by_cases h : n = 0
  ·subst h; rw [bl_zero]; simp
  obtain ⟨a, b⟩ := ih (n / 2) (by omega)
  rw [bl_pos h, Nat.pow_succ]
  refine ⟨by omega, fun _ => ?_⟩
  by_cases g : n / 2 = 0
  ·rw [g, bl_zero]; omega
  have := b g; omega
theorem bl_lt (n : Nat) : n < 2 ^ bl n := (bl_spec n).1
theorem bl_le {n : Nat} (h : n ≠ 0) : 2 ^ bl n ≤ 2 * n := (bl_spec n).2 h
theorem bl_ne {n : Nat} (h : n ≠ 0) : bl n ≠ 0 := by rw [bl_pos h]; omega
theorem bl_eq_zero {n : Nat} : bl n = 0 ↔ n = 0 := ⟨fun h => Classical.byContradiction fun g => bl_ne g h, fun h => by rw [h, bl_zero]⟩
theorem bl_unique {n m : Nat} (h : 2 ^ m ≤ n) (g : n < 2 ^ (m + 1)) : bl n = m + 1 := by
 have hn : n ≠ 0 := by have : 0 < 2 ^ m := Nat.pow_pos (by decide); omega
 have a := bl_lt n; have b := bl_le hn
 have c : m < bl n := (Nat.pow_lt_pow_iff_right (a := 2) (by decide)).1 (by omega)
 have d : bl n < m + 2 := (Nat.pow_lt_pow_iff_right (a := 2) (by decide)).1 (by rw [Nat.pow_succ] at *; omega)
 omega
theorem bl_le_iff {n m : Nat} : bl n ≤ m ↔ n < 2 ^ m := by
 constructor
 ·intro h; exact Nat.lt_of_lt_of_le (bl_lt n) (Nat.pow_le_pow_right (by decide) h)
 intro h
 by_cases g : n = 0
 ·rw [g, bl_zero]; omega
 have b := bl_le g
 have : bl n < m + 1 := (Nat.pow_lt_pow_iff_right (a := 2) (by decide)).1 (by rw [Nat.pow_succ]; omega)
 omega
theorem bl_shl {n : Nat} (h : n ≠ 0) (m : Nat) : bl (n * 2 ^ m) = bl n + m := by
 have a := bl_lt n; have b := bl_le h; have c := bl_ne h
 have e : bl n + m = (bl n - 1 + m) + 1 := by omega
 have e2 : bl n = (bl n - 1) + 1 := by omega
 rw [e]
 apply bl_unique
 ·rw [e2, Nat.pow_succ] at b
  rw [Nat.pow_add]; exact Nat.mul_le_mul_right _ (by omega)
 rw [← e, Nat.pow_add]; exact Nat.mul_lt_mul_of_pos_right a (Nat.pow_pos (by decide))
theorem bl_mono {a b : Nat} (h : a ≤ b) : bl a ≤ bl b := bl_le_iff.2 (Nat.lt_of_le_of_lt h (bl_lt b))
theorem bl_top {v w m : Nat} (hv : v < 18446744073709551616 ^ m) (hw : w ≠ 0) : bl (v + 18446744073709551616 ^ m * w) = 64 * m + bl w := by
 have a := bl_lt w; have b := bl_le hw; have c := bl_ne hw
 have e : (18446744073709551616 : Nat) ^ m = 2 ^ (64 * m) := by rw [Nat.pow_mul]
 rw [e] at hv ⊢
 have e3 : 64 * m + bl w = (64 * m + (bl w - 1)) + 1 := by omega
 rw [e3]
 apply bl_unique
 ·have : 2 ^ (64 * m) * 2 ^ (bl w - 1) ≤ 2 ^ (64 * m) * w := by
   refine Nat.mul_le_mul_left _ ?_
   have e2 : bl w = (bl w - 1) + 1 := by omega
   rw [e2, Nat.pow_succ] at b; omega
  rw [Nat.pow_add]; omega
 rw [← e3, Nat.pow_add]
 have : 2 ^ (64 * m) * (w + 1) ≤ 2 ^ (64 * m) * 2 ^ bl w := Nat.mul_le_mul_left _ (by omega)
 rw [Nat.mul_add] at this; omega
theorem big_lt_iff {x : Nat} : x < big ↔ bl x ≤ 65536 := by
 have h : ∀ m, x < 18446744073709551616 ^ m ↔ bl x ≤ 64 * m := fun m => by
  have e : (18446744073709551616 : Nat) ^ m = 2 ^ (64 * m) := by rw [Nat.pow_mul]
  rw [e, bl_le_iff]
 unfold big
 exact h 1024
theorem shl_big {v n : Nat} (h : v ≠ 0) : v * 2 ^ n < big ↔ bl v + n ≤ 65536 := by
 rw [big_lt_iff, bl_shl h]
theorem shr_step {S T P x0 X a c r B lo : Nat} (hB : S * T = B) (hr : r = a / S + T * (c % S)) (hv : S * lo + x0 = X + P * (a % S)) : S * (lo + P * r) + x0 = X + P * a + P * B * (c % S) := by
 have e := Nat.div_add_mod a S
 rw [hr, Nat.mul_add, Nat.mul_add P, Nat.mul_add, ← hB]
 have e2 : S * (P * (a / S)) + P * (a % S) = P * a := by rw [← Nat.mul_assoc, Nat.mul_comm S P, Nat.mul_assoc, ← Nat.mul_add, e]
 have e3 : S * (P * (T * (c % S))) = P * (S * T) * (c % S) := by
  rw [← Nat.mul_assoc S P, Nat.mul_comm S P, Nat.mul_assoc, ← Nat.mul_assoc S T, ← Nat.mul_assoc P]
 rw [e3]; omega
theorem shr_end {S r x0 X : Nat} (h0 : x0 < S) (h : S * r + x0 = X) : r = X / S ∧ x0 = X % S := by
 subst h
 constructor
 ·rw [Nat.mul_add_div (by omega), Nat.div_eq_of_lt h0]; rfl
 rw [Nat.mul_add_mod, Nat.mod_eq_of_lt h0]
theorem shr_all {P S t X v : Nat} (ht : t < P) (hv : v = t + P * X) : v / (P * S) = X / S ∧ v % (P * S) = t + P * (X % S) := by
 have hp : 0 < P := by omega
 subst hv
 have e : (t + P * X) / P = X := by rw [Nat.add_mul_div_left _ _ hp, Nat.div_eq_of_lt ht]; omega
 have e2 : (t + P * X) % P = t := by rw [Nat.add_mul_mod_self_left, Nat.mod_eq_of_lt ht]
 constructor
 ·rw [← Nat.div_div_eq_div_mul, e]
 rw [Nat.mod_mul, e, e2]
theorem ofN_ne {v : Nat} : ofN v = [] ↔ v = 0 := by
 constructor
 ·intro h; have := val_ofN v; rw [h] at this; exact this.symm
 intro h; rw [h, ofN_zero]
end Go.Proofs.YtnjfckadjklmfaaDoor.Nm

namespace Go.Proofs.YtnjfckadjklmfaaDoor.Nm
def rnd (v n : Nat) : Nat := v / 2 ^ n + if v / 2 ^ (n - 1) % 2 = 1 ∧ (v % 2 ^ (n - 1) ≠ 0 ∨ v / 2 ^ n % 2 = 1) then 1 else 0
theorem two_pow_pos' (n : Nat) : 0 < 2 ^ n := Nat.pow_pos (by decide)
theorem rnd_char (v : Nat) {n : Nat} (h : 1 ≤ n) : rnd v n = v / 2 ^ n + if 2 ^ n < 2 * (v % 2 ^ n) ∨ (2 * (v % 2 ^ n) = 2 ^ n ∧ v / 2 ^ n % 2 = 1) then 1 else 0 := by
 unfold rnd
 congr 1
 obtain ⟨m, rfl⟩ : ∃ m, n = m + 1 := ⟨n - 1, by omega⟩
 rw [Nat.add_sub_cancel]
 have hp := two_pow_pos' m
 have e1 := Nat.div_add_mod v (2 ^ (m + 1))
 have l1 := Nat.mod_lt v (two_pow_pos' (m + 1))
 rw [Nat.pow_succ] at *
 generalize hq : v / (2 ^ m * 2) = q at *
 generalize hr : v % (2 ^ m * 2) = r at *
 generalize 2 ^ m = M at *
 have d : v / M % 2 = (if M ≤ r then 1 else 0) ∧ v % M = (if M ≤ r then r - M else r) := by
  by_cases c : M ≤ r
  ·rw [if_pos c, if_pos c]
   have e : v = M * (2 * q + 1) + (r - M) := by
    rw [← e1, Nat.mul_add, Nat.mul_one, Nat.mul_assoc]; omega
   constructor
   ·rw [e, Nat.mul_add_div hp, Nat.div_eq_of_lt (by omega)]; omega
   rw [e, Nat.mul_add_mod, Nat.mod_eq_of_lt (by omega)]
  rw [if_neg c, if_neg c]
  have e : v = M * (2 * q) + r := by rw [← e1, Nat.mul_assoc]
  constructor
  ·rw [e, Nat.mul_add_div hp, Nat.div_eq_of_lt (by omega)]; omega
  rw [e, Nat.mul_add_mod, Nat.mod_eq_of_lt (by omega)]
 rw [d.1, d.2]
 by_cases c : M ≤ r
 ·rw [if_pos c, if_pos c]
  by_cases x : r = M
  ·subst x
   by_cases y : q % 2 = 1
   ·rw [if_pos ⟨rfl, .inr y⟩, if_pos (.inr ⟨by omega, y⟩)]
   rw [if_neg (by omega), if_neg (by omega)]
  rw [if_pos ⟨rfl, .inl (by omega)⟩, if_pos (.inl (by omega))]
 rw [if_neg c, if_neg (by omega), if_neg (by omega)]
theorem rnd_ge {v m n : Nat} (h : m * 2 ^ n ≤ v) : m ≤ rnd v n := by
 have := (Nat.le_div_iff_mul_le (two_pow_pos' n)).2 h
 unfold rnd
 exact Nat.le_trans this (Nat.le_add_right _ _)
theorem rnd_le {v m n : Nat} (hn : 1 ≤ n) (h : v ≤ m * 2 ^ n) : rnd v n ≤ m := by
 rw [rnd_char v hn]
 have e := Nat.div_add_mod v (2 ^ n)
 have hp := two_pow_pos' n
 generalize v / 2 ^ n = q at *
 generalize v % 2 ^ n = r at *
 generalize 2 ^ n = P at *
 rcases Nat.lt_trichotomy q m with c | c | c
 ·split <;> omega
 ·subst c
  have : r = 0 := by
   rw [Nat.mul_comm] at h; omega
  subst this
  split
  ·omega
  omega
 have : m * P + P ≤ q * P := by
  have := Nat.mul_le_mul_right P c
  rw [Nat.succ_mul] at this; exact this
 rw [Nat.mul_comm P q] at e
 omega
theorem rnd_mono {v w n : Nat} (hn : 1 ≤ n) (h : v ≤ w) : rnd v n ≤ rnd w n := by
 by_cases c : v / 2 ^ n = w / 2 ^ n
 ·rw [rnd_char v hn, rnd_char w hn, c]
  have e := Nat.div_add_mod v (2 ^ n)
  have f := Nat.div_add_mod w (2 ^ n)
  rw [c] at e
  generalize v % 2 ^ n = r at *
  generalize w % 2 ^ n = s at *
  generalize 2 ^ n = P at *
  generalize w / P = q at *
  have : r ≤ s := by omega
  apply Nat.add_le_add_left
  split
  ·rename_i x
   rw [if_pos (by omega)]; exact Nat.le_refl _
  split <;> omega
 have l := Nat.div_le_div_right (c := 2 ^ n) h
 have l2 : v / 2 ^ n + 1 ≤ w / 2 ^ n := by omega
 have a : rnd v n ≤ v / 2 ^ n + 1 := by unfold rnd; split <;> omega
 have b : w / 2 ^ n ≤ rnd w n := by unfold rnd; omega
 omega
end Go.Proofs.YtnjfckadjklmfaaDoor.Nm

namespace Go.Proofs.YtnjfckadjklmfaaDoor.Nm
theorem P52 : (2 : Nat) ^ 52 = 4503599627370496 := by decide
theorem P53 : (2 : Nat) ^ 53 = 9007199254740992 := by decide
def INn : Nat := 9218868437227405312
def shA (K A : Nat) : Nat := max (bl A - 53) K
def cdA (K A : Nat) : Nat := (shA K A - K) * 4503599627370496 + rnd A (shA K A)
def mbA (K A : Nat) : Nat := min INn (cdA K A)
def lsA (K A : Nat) : Prop := INn ≤ cdA K A ∨ A % 2 ^ shA K A ≠ 0
def tyA (K A : Nat) : Prop := rnd A (K - 1) < 9007199254740992
theorem shA_ge (K A : Nat) : K ≤ shA K A := Nat.le_max_right _ _
theorem rnd_top {K A : Nat} (hK : 1 ≤ K) : rnd A (shA K A) ≤ 9007199254740992 := by
 refine rnd_le (Nat.le_trans hK (shA_ge K A)) ?_
 rw [← P53, ← Nat.pow_add]
 refine Nat.le_of_lt (Nat.lt_of_lt_of_le (bl_lt A) (Nat.pow_le_pow_right (by decide) ?_))
 have : bl A - 53 ≤ shA K A := Nat.le_max_left _ _
 omega
theorem am_ge {K A : Nat} (h : K < shA K A) : 4503599627370496 * 2 ^ shA K A ≤ A := by
 have e : shA K A = bl A - 53 := by unfold shA at *; omega
 have z : A ≠ 0 := by rintro rfl; rw [bl_zero] at e; omega
 have := bl_le z
 have e2 : bl A = 53 + shA K A := by omega
 rw [e2, Nat.pow_add, P53] at this
 generalize 2 ^ shA K A = P at *
 omega
theorem rnd_bot {K A : Nat} (h : K < shA K A) : 4503599627370496 ≤ rnd A (shA K A) := rnd_ge (am_ge h)
theorem cdA_mono {K A B : Nat} (hK : 1 ≤ K) (h : A ≤ B) : cdA K A ≤ cdA K B := by
 have b := bl_mono h
 have s : shA K A ≤ shA K B := by unfold shA; omega
 have g := shA_ge K A
 unfold cdA
 by_cases e : shA K A = shA K B
 ·have := rnd_mono (n := shA K B) (by omega) h
  rw [e]; omega
 have t := rnd_top (K := K) (A := A) hK
 have u := rnd_bot (K := K) (A := B) (by omega)
 obtain ⟨a, ha⟩ : ∃ a, shA K A - K = a := ⟨_, rfl⟩
 obtain ⟨c, hc⟩ : ∃ c, shA K B - K = c := ⟨_, rfl⟩
 have l : a + 1 ≤ c := by omega
 rw [ha, hc]
 omega
theorem mbA_mono {K A B : Nat} (hK : 1 ≤ K) (h : A ≤ B) : mbA K A ≤ mbA K B := by
 have := cdA_mono hK h
 unfold mbA; omega
theorem rnd_zero (n : Nat) : rnd 0 n = 0 := by unfold rnd; simp
theorem tyA_zero (K : Nat) : tyA K 0 := by unfold tyA; rw [rnd_zero]; decide
theorem cdA_zero (K : Nat) : cdA K 0 = 0 := by unfold cdA shA; rw [rnd_zero, bl_zero]; simp
theorem mbA_zero (K : Nat) : mbA K 0 = 0 := by unfold mbA; rw [cdA_zero]; decide
theorem rnd_of {m n r : Nat} (hn : 1 ≤ n) (hr : r < 2 ^ n) : rnd (m * 2 ^ n + r) n = m + if 2 ^ n < 2 * r ∨ (2 * r = 2 ^ n ∧ m % 2 = 1) then 1 else 0 := by
 rw [rnd_char _ hn, show (m * 2 ^ n + r) / 2 ^ n = m by rw [Nat.mul_comm, Nat.mul_add_div (two_pow_pos' n), Nat.div_eq_of_lt hr, Nat.add_zero], show (m * 2 ^ n + r) % 2 ^ n = r by rw [Nat.mul_comm, Nat.mul_add_mod, Nat.mod_eq_of_lt hr]]
theorem rnd_mul (m : Nat) {n : Nat} (hn : 1 ≤ n) : rnd (m * 2 ^ n) n = m := by
 have := rnd_of (m := m) (n := n) (r := 0) hn (two_pow_pos' n)
 rw [Nat.add_zero] at this
 rw [this, if_neg (by have := two_pow_pos' n; omega), Nat.add_zero]
end Go.Proofs.YtnjfckadjklmfaaDoor.Nm

namespace Go.Proofs.YtnjfckadjklmfaaDoor.Nb
open Go.RowKit Go.Proofs.YtnjfckadjklmfaaDoor.PAll Go.Proofs.YtnjfckadjklmfaaDoorW.PrintWords Go.Proofs.YtnjfckadjklmfaaDoorW.PrintLast Go.Proofs.YtnjfckadjklmfaaDoorW.PrintMore
set_option linter.unusedVariables false
set_option linter.unusedSimpArgs false
def W64 (x : Int) : Prop := 0 ≤ x ∧ x < 18446744073709551616
theorem wrapU {x : Int} (h0 : 0 ≤ x) (h1 : x < 18446744073709551616) : IntKind.u64.wrap x = x := by
 rw [IntKind.wrap_u64]; omega
theorem wrapS {x : Int} (h0 : -9223372036854775808 ≤ x) (h1 : x < 9223372036854775808) : wrap64 x = x := by
 unfold wrap64; omega
theorem toNat_cast {x : Int} (h : 0 ≤ x) : ((x.toNat : Nat) : Int) = x := Int.toNat_of_nonneg h
theorem and_pow {x : Int} (i : Nat) (hx : W64 x) (hi : i < 64) : Go.bits .and .u64 x (((2 ^ i : Nat) : Int)) = x / ((2 ^ i : Nat) : Int) % 2 * ((2 ^ i : Nat) : Int) := by
 have hp : (2 ^ i : Nat) < 18446744073709551616 := by
  have := Nat.pow_lt_pow_right (a := 2) (by decide) hi
  omega
 rw [u64_and x _ hx.1 hx.2 (Int.natCast_nonneg _) (by omega), Int.toNat_natCast, nat_bit]
 rw [Int.natCast_mul, Int.natCast_emod, Int.natCast_ediv, toNat_cast hx.1]; rfl
theorem and_mask {x : Int} (i : Nat) (hx : W64 x) (hi : i ≤ 64) : Go.bits .and .u64 x (((2 ^ i - 1 : Nat) : Int)) = x % ((2 ^ i : Nat) : Int) := by
 have hp : (2 ^ i : Nat) ≤ 18446744073709551616 := by
  have := Nat.pow_le_pow_right (n := 2) (by decide) hi
  omega
 have hp0 : 0 < (2 ^ i : Nat) := Nat.two_pow_pos i
 rw [u64_and x _ hx.1 hx.2 (Int.natCast_nonneg _) (by omega), Int.toNat_natCast, Nat.and_two_pow_sub_one_eq_mod, Int.natCast_emod, toNat_cast hx.1]
theorem and_sign {x : Int} (hx : W64 x) : Go.bits .and .u64 x 9223372036854775808 = if x < 9223372036854775808 then 0 else 9223372036854775808 := by
 have h := and_pow 63 hx (by decide)
 have e : ((2 ^ 63 : Nat) : Int) = 9223372036854775808 := by decide
 rw [e] at h; rw [h]; unfold W64 at hx
 split <;> omega
theorem and_2047 {x : Int} (hx : W64 x) : Go.bits .and .u64 x 2047 = x % 2048 := by
 have h := and_mask 11 hx (by decide)
 have e : ((2 ^ 11 : Nat) : Int) = 2048 := by decide
 have e' : ((2 ^ 11 - 1 : Nat) : Int) = 2047 := by decide
 rw [e, e'] at h; exact h
theorem and_frac {x : Int} (hx : W64 x) : Go.bits .and .u64 x 4503599627370495 = x % 4503599627370496 := by
 have h := and_mask 52 hx (by decide)
 have e : ((2 ^ 52 : Nat) : Int) = 4503599627370496 := by decide
 have e' : ((2 ^ 52 - 1 : Nat) : Int) = 4503599627370495 := by decide
 rw [e, e'] at h; exact h
theorem andNot_sign {x : Int} (hx : W64 x) : Go.bits .andNot .u64 x 9223372036854775808 = x % 9223372036854775808 := by
 have h := and_mask 63 hx (by decide)
 have e : ((2 ^ 63 : Nat) : Int) = 9223372036854775808 := by decide
 have e' : ((2 ^ 63 - 1 : Nat) : Int) = 9223372036854775807 := by decide
 rw [e, e'] at h; rw [← h]
 rw [u64_andNot x _ hx.1 hx.2 (by decide) (by decide), u64_and x _ hx.1 hx.2 (by decide) (by decide)]
 rfl
theorem xor_sign {x : Int} (hx : W64 x) : Go.bits .xor .u64 x 9223372036854775808 = if x < 9223372036854775808 then x + 9223372036854775808 else x - 9223372036854775808 := by
 rw [u64_xor x _ hx.1 hx.2 (by decide) (by decide)]
 have hx0 := hx.1; have hx1 := hx.2
 obtain ⟨n, rfl⟩ := Int.eq_ofNat_of_zero_le hx0
 have e : (9223372036854775808 : Int).toNat = 2 ^ 63 := by decide
 rw [Int.toNat_natCast, e]
 have hn : n < 2 ^ 64 := by omega
 have h2 : n ^^^ 2 ^ 63 = if n < 2 ^ 63 then n + 2 ^ 63 else n - 2 ^ 63 := by
  have hb : ∀ m : Nat, m < 2 ^ 63 → m ^^^ 2 ^ 63 = m + 2 ^ 63 := by
   intro m hm
   rw [Nat.xor_comm]
   have := Nat.two_pow_add_eq_or_of_lt hm 1
   rw [Nat.mul_one] at this
   rw [Nat.add_comm, this]
   apply Nat.eq_of_testBit_eq
   intro i
   rw [Nat.testBit_xor, Nat.testBit_or]
   rw [Nat.testBit_two_pow]
   by_cases hi : 63 = i
   ·subst hi
    rw [Nat.testBit_lt_two_pow hm]; simp
   simp [hi]
  split
  ·rename_i h; exact hb n h
  rename_i h
  have := hb (n - 2 ^ 63) (by omega)
  have e2 : n - 2 ^ 63 + 2 ^ 63 = n := by omega
  rw [e2] at this
  have h3 : (n - 2 ^ 63) ^^^ 2 ^ 63 ^^^ 2 ^ 63 = n ^^^ 2 ^ 63 := by rw [this]
  rw [Nat.xor_assoc, Nat.xor_self, Nat.xor_zero] at h3
  exact h3.symm
 rw [h2]
 split <;> split <;> omega
end Go.Proofs.YtnjfckadjklmfaaDoor.Nb
namespace Go.Proofs.YtnjfckadjklmfaaDoor.Nb
open Go.RowKit Go.Proofs.YtnjfckadjklmfaaDoor.PAll Go.Proofs.YtnjfckadjklmfaaDoorW.PrintWords Go.Proofs.YtnjfckadjklmfaaDoorW.PrintLast Go.Proofs.YtnjfckadjklmfaaDoorW.PrintMore
set_option linter.unusedVariables false
set_option linter.unusedSimpArgs false
def am (x : Int) : Int := x % 9223372036854775808
def pl (x : Int) : Int := if x < 9223372036854775808 then x else -(x % 9223372036854775808)
def isNum (x : Int) : Prop := x % 9223372036854775808 ≤ 9218868437227405312
def isFin (x : Int) : Prop := x % 9223372036854775808 < 9218868437227405312
instance (x : Int) : Decidable (isNum x) := inferInstanceAs (Decidable (_ ≤ _))
instance (x : Int) : Decidable (isFin x) := inferInstanceAs (Decidable (_ < _))
def ex (x : Int) : Int := x / 4503599627370496 % 2048
def fr (x : Int) : Int := x % 4503599627370496
def up (x : Int) : Int := if isNum x then (if x = 9218868437227405312 then x else if x % 9223372036854775808 = 0 then 1 else if x < 9223372036854775808 then x + 1 else x - 1) else x
def ng (x : Int) : Int := if x < 9223372036854775808 then x + 9223372036854775808 else x - 9223372036854775808
def down (x : Int) : Int := if isNum x then (if x = 18442240474082181120 then x else if x % 9223372036854775808 = 0 then 9223372036854775809 else if x < 9223372036854775808 then x - 1 else x + 1) else x
def last (x : Int) : Int × Int := if isFin x then ((if ex x = 0 then 1 else ex x) - 1075, 0) else (0, 5)
def mant (x : Int) : Int := if ex x = 0 then fr x else fr x + 4503599627370496
def expo (x : Int) : Int := if ex x = 0 then -1074 else ex x - 1075
def whole (x : Int) : Bool := decide (isFin x ∧ (mant x = 0 ∨ expo x ≥ 0 ∨ mant x % 2 ^ (-expo x).toNat = 0))
def odd (x : Int) : Bool := whole x && decide (expo x ≤ 0 ∧ mant x / 2 ^ (-expo x).toNat % 2 = 1)
theorem amount_eq {x : Int} (hx : W64 x) : bits_amount.f x = some (am x) := by
 unfold bits_amount.f am; rw [andNot_sign hx]
theorem number_eq {x : Int} (hx : W64 x) : bits_number.f x = some (decide (isNum x)) := by
 unfold bits_number.f; rw [amount_eq hx]; rfl
theorem finite_eq {x : Int} (hx : W64 x) : bits_finite.f x = some (decide (isFin x)) := by
 unfold bits_finite.f; rw [amount_eq hx]; rfl
theorem place_eq {x : Int} (hx : W64 x) : bits_place.f x = some (pl x) := by
 have h0 := hx.1; have h1 := hx.2
 unfold bits_place.f; rw [amount_eq hx, and_sign hx]; simp only [Option.bind_some]; unfold pl am wrap64
 by_cases h : x < 9223372036854775808
 ·rw [if_pos h, if_pos rfl, if_pos h]; congr 1; omega
 rw [if_neg h, if_neg (by decide), if_neg h]; congr 1; omega
theorem neg_eq {x : Int} (hx : W64 x) : bits_Neg.f x = some (ng x) := by
 unfold bits_Neg.f ng; rw [xor_sign hx]
theorem abs_eq {x : Int} (hx : W64 x) : bits_Abs.f x = some (am x) := by
 unfold bits_Abs.f; rw [amount_eq hx]; rfl
theorem less_eq {x y : Int} (hx : W64 x) (hy : W64 y) : bits_Less.f x y = some (decide (isNum x ∧ isNum y ∧ pl x < pl y)) := by
 unfold bits_Less.f; rw [number_eq hx, number_eq hy, place_eq hx, place_eq hy]; simp only [Option.bind_some]
 by_cases a : isNum x <;> by_cases b : isNum y <;> simp [a, b]
theorem split_eq {x : Int} (hx : W64 x) : bits_Split.f x = some (decide (9223372036854775808 ≤ x), ex x, fr x) := by
 have h0 := hx.1; have h1 := hx.2
 unfold bits_Split.f; rw [and_sign hx, and_2047 (by unfold W64; omega), and_frac hx, wrapS (by omega) (by omega)]
 unfold ex fr
 by_cases h : x < 9223372036854775808
 ·rw [if_pos h]; simp; omega
 rw [if_neg h]; simp; omega
theorem ex_bd {x : Int} (hx : W64 x) : 0 ≤ ex x ∧ ex x ≤ 2047 := by unfold ex; omega
theorem last_eq {x : Int} (hx : W64 x) : bits_Last.f x = some (last x) := by
 have b := ex_bd hx
 unfold bits_Last.f last; rw [finite_eq hx, split_eq hx]; simp only [Option.bind_some]
 by_cases h : isFin x
 ·simp only [h, decide_true, if_true]; unfold mx
  rw [wrapS (by split <;> omega) (by split <;> omega)]
  split <;> split <;> first | rfl | omega
 simp [h]
theorem pow_pos (a : Nat) : (0 : Int) < 2 ^ a := by
 have := Nat.two_pow_pos a
 exact_mod_cast this
theorem shr_eq {m : Int} {n : Nat} (hn : n < 64) : shr .u64 m n = m / 2 ^ n := by
 unfold shr
 have : min ((n : Int).toNat) IntKind.u64.bits = n := by
  simp [IntKind.bits]; omega
 rw [this]
end Go.Proofs.YtnjfckadjklmfaaDoor.Nb

namespace Go.Proofs.YtnjfckadjklmfaaDoor.Nm
set_option linter.unusedVariables false
theorem val_drop (l : List Int) (i : Nat) (h : i < l.length) : val (l.drop i) = (l.getD i 0).toNat + 18446744073709551616 * val (l.drop (i + 1)) := by
 rw [List.drop_eq_getElem_cons h, val_cons, List.getD_eq_getElem?_getD, List.getElem?_eq_getElem h]; rfl
end Go.Proofs.YtnjfckadjklmfaaDoor.Nm
