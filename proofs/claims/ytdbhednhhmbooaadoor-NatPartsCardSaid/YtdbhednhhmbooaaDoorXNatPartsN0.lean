/- Plain part. -/
import Derived.Test.YtdbhednhhmbooaaDoorXNatPartsP0
import Derived.Test.YtdbhednhhmbooaaDoorXNatPartsP1
import Derived.Test.YtdbhednhhmbooaaDoorXNatPartsP2
import Derived.Test.YtdbhednhhmbooaaDoorXNatPartsP3
import Derived.Test.YtdbhednhhmbooaaDoorXNatPartsP4
import Derived.Test.YtdbhednhhmbooaaDoorXNatPartsP5
import Derived.Test.YtdbhednhhmbooaaDoorXNatPartsP6
import Derived.Test.YtdbhednhhmbooaaDoorXNatPartsP7
import Derived.Laws.Bits64b
import Derived.Laws.BitsAllLaws
import Derived.Laws.Closers25b
import Derived.Laws.StructEq
namespace Go.Proofs.YtdbhednhhmbooaaDoor.Nm
set_option linter.unusedVariables false
/-- The number of a list of words, the lowest word first. -/
def val : List Int → Nat
  | [] => 0
  | w :: l => w.toNat + 18446744073709551616 * val l
/-- All are words of 64 bits. -/
def Ws (l : List Int) : Prop := ∀ x ∈ l, 0 ≤ x ∧ x < 18446744073709551616
/-- No word 0 at the end. -/
def Nrm : List Int → Prop
  | [] => True
  | [w] => w ≠ 0
  | _ :: l => Nrm l
/-- The words of a number, none 0 at the end. -/
def ofN (n : Nat) : List Int := if n = 0 then [] else ((n % 18446744073709551616 : Nat) : Int) :: ofN (n / 18446744073709551616)
termination_by n
decreasing_by omega
theorem ofN_zero : ofN 0 = [] := by unfold ofN; simp
theorem ofN_pos {n : Nat} (h : n ≠ 0) : ofN n = ((n % 18446744073709551616 : Nat) : Int) :: ofN (n / 18446744073709551616) := by
  rw [ofN]; simp [h]
theorem ws_nil : Ws [] := fun _ h => by cases h
theorem ws_cons {w : Int} {l : List Int} : Ws (w :: l) ↔ (0 ≤ w ∧ w < 18446744073709551616) ∧ Ws l := by
  unfold Ws; simp
theorem ws_take {l : List Int} (h : Ws l) (n : Nat) : Ws (l.take n) := fun x hx => h x (List.mem_of_mem_take hx)
theorem ws_get {l : List Int} (h : Ws l) (i : Nat) : 0 ≤ l.getD i 0 ∧ l.getD i 0 < 18446744073709551616 := by
  by_cases hi : i < l.length
  · rw [List.getD_eq_getElem?_getD, List.getElem?_eq_getElem hi]
    exact h _ (List.getElem_mem hi)
  · rw [List.getD_eq_getElem?_getD, List.getElem?_eq_none (by omega)]
    simp
theorem val_nil : val [] = 0 := rfl
theorem val_cons (w : Int) (l : List Int) : val (w :: l) = w.toNat + 18446744073709551616 * val l := rfl
theorem val_append (a b : List Int) : val (a ++ b) = val a + 18446744073709551616 ^ a.length * val b := by
  induction a with
  | nil => simp [val]
  | cons w a ih =>
    rw [List.cons_append, val_cons, val_cons, ih, List.length_cons, Nat.pow_succ, Nat.mul_add, ← Nat.add_assoc]
    congr 1
    rw [← Nat.mul_assoc, Nat.mul_comm 18446744073709551616 (18446744073709551616 ^ a.length), Nat.mul_assoc]
theorem val_lt {l : List Int} (h : Ws l) : val l < 18446744073709551616 ^ l.length := by
  induction l with
  | nil => simp [val]
  | cons w l ih =>
    obtain ⟨hw, hl⟩ := ws_cons.1 h
    have := ih hl
    rw [val_cons, List.length_cons, Nat.pow_succ]
    generalize 18446744073709551616 ^ l.length = p at *
    omega
theorem val_take_succ (l : List Int) (i : Nat) (hi : i < l.length) : val (l.take (i + 1)) = val (l.take i) + 18446744073709551616 ^ i * (l.getD i 0).toNat := by
  rw [List.take_succ_eq_append_getElem hi, val_append, List.length_take, Nat.min_eq_left (by omega), List.getD_eq_getElem?_getD, List.getElem?_eq_getElem hi]
  simp [val]
theorem val_take_ge (l : List Int) (i : Nat) (hi : l.length ≤ i) : val (l.take i) = val l := by rw [List.take_of_length_le hi]
theorem val_take_drop (l : List Int) (i : Nat) (hi : i ≤ l.length) : val l = val (l.take i) + 18446744073709551616 ^ i * val (l.drop i) := by
  conv => lhs; rw [← List.take_append_drop i l]
  rw [val_append, List.length_take, Nat.min_eq_left hi]
theorem getD_set_ne (l : List Int) (i j : Nat) (w : Int) (h : i ≠ j) : (l.set i w).getD j 0 = l.getD j 0 := by
  simp [List.getD_eq_getElem?_getD, List.getElem?_set_ne h]
theorem getD_ge (l : List Int) (i : Nat) (h : l.length ≤ i) : l.getD i 0 = 0 := by
  rw [List.getD_eq_getElem?_getD, List.getElem?_eq_none h]; rfl
theorem take_succ_getD (l : List Int) (i : Nat) : val (l.take (i + 1)) = val (l.take i) + 18446744073709551616 ^ i * (l.getD i 0).toNat := by
  by_cases h : i < l.length
  · exact val_take_succ l i h
  · rw [getD_ge _ _ (by omega), val_take_ge _ _ (by omega), val_take_ge _ _ (by omega)]; simp
theorem val_ofN (n : Nat) : val (ofN n) = n := by
  induction n using Nat.strongRecOn with
  | _ n ih =>
    by_cases h : n = 0
    · subst h; rw [ofN_zero]; rfl
    · rw [ofN_pos h, val_cons, ih _ (by omega)]; simp only [Int.toNat_natCast]; omega
theorem ws_ofN (n : Nat) : Ws (ofN n) := by
  induction n using Nat.strongRecOn with
  | _ n ih =>
    by_cases h : n = 0
    · subst h; rw [ofN_zero]; exact ws_nil
    · rw [ofN_pos h]; exact ws_cons.2 ⟨by omega, ih _ (by omega)⟩
theorem nrm_pos {w : Int} {l : List Int} (hw : Ws (w :: l)) (hn : Nrm (w :: l)) : val (w :: l) ≠ 0 := by
  induction l generalizing w with
  | nil =>
    have := (ws_cons.1 hw).1
    have hn' : w ≠ 0 := hn
    rw [val_cons, val_nil]; omega
  | cons v l ih =>
    have h2 : Nrm (v :: l) := hn
    have := ih (ws_cons.1 hw).2 h2
    rw [val_cons]; omega
theorem eq_ofN {l : List Int} (hw : Ws l) (hn : Nrm l) : l = ofN (val l) := by
  induction l with
  | nil => rw [val_nil, ofN_zero]
  | cons w l ih =>
    have h0 := nrm_pos hw hn
    obtain ⟨h1, h2⟩ := ws_cons.1 hw
    rw [ofN_pos h0]
    have hl : Nrm l := by
      cases l with
      | nil => trivial
      | cons v l => exact hn
    have e1 : ((val (w :: l) % 18446744073709551616 : Nat) : Int) = w := by rw [val_cons]; omega
    have e2 : val (w :: l) / 18446744073709551616 = val l := by rw [val_cons]; omega
    rw [e1, e2, ← ih h2 hl]
theorem ofN_len (n m : Nat) : (ofN n).length ≤ m ↔ n < 18446744073709551616 ^ m := by
  induction m generalizing n with
  | zero =>
    by_cases h : n = 0
    · subst h; rw [ofN_zero]; simp
    · rw [ofN_pos h]; simp; omega
  | succ m ih =>
    by_cases h : n = 0
    · subst h; rw [ofN_zero]; simp; exact Nat.pow_pos (by decide)
    · rw [ofN_pos h, List.length_cons, Nat.pow_succ]
      have := ih (n / 18446744073709551616)
      rw [Nat.div_lt_iff_lt_mul (by decide)] at this
      omega
theorem nrm_of_last {l : List Int} {w : Int} (h : w ≠ 0) : Nrm (l ++ [w]) := by
  induction l with
  | nil => exact h
  | cons v l ih =>
    cases l with
    | nil => exact h
    | cons u l => exact ih
theorem pow_pos (n : Nat) : 0 < 18446744073709551616 ^ n := Nat.pow_pos (by decide)
/-- What is too great. -/
def big : Nat := 18446744073709551616 ^ 1024
theorem ofN_big (v : Nat) : (ofN v).length ≤ 1024 ↔ v < big := by unfold big; exact ofN_len v 1024
end Go.Proofs.YtdbhednhhmbooaaDoor.Nm
namespace Go.Proofs.YtdbhednhhmbooaaDoor.Nm
set_option linter.unusedVariables false
/-- How many bits a number has. -/
def bl (n : Nat) : Nat := if n = 0 then 0 else bl (n / 2) + 1
termination_by n
decreasing_by omega
theorem bl_zero : bl 0 = 0 := by unfold bl; simp
theorem bl_pos {n : Nat} (h : n ≠ 0) : bl n = bl (n / 2) + 1 := by rw [bl]; simp [h]
theorem bl_spec (n : Nat) : n < 2 ^ bl n ∧ (n ≠ 0 → 2 ^ bl n ≤ 2 * n) := by
  induction n using Nat.strongRecOn with
  | _ n ih =>
    by_cases h : n = 0
    · subst h; rw [bl_zero]; simp
    · obtain ⟨a, b⟩ := ih (n / 2) (by omega)
      rw [bl_pos h, Nat.pow_succ]
      refine ⟨by omega, fun _ => ?_⟩
      by_cases g : n / 2 = 0
      · rw [g, bl_zero]; omega
      · have := b g; omega
theorem bl_lt (n : Nat) : n < 2 ^ bl n := (bl_spec n).1
theorem bl_le {n : Nat} (h : n ≠ 0) : 2 ^ bl n ≤ 2 * n := (bl_spec n).2 h
theorem bl_ne {n : Nat} (h : n ≠ 0) : bl n ≠ 0 := by rw [bl_pos h]; omega
theorem bl_unique {n m : Nat} (h : 2 ^ m ≤ n) (g : n < 2 ^ (m + 1)) : bl n = m + 1 := by
  have hn : n ≠ 0 := by have : 0 < 2 ^ m := Nat.pow_pos (by decide); omega
  have a := bl_lt n; have b := bl_le hn
  have c : m < bl n := (Nat.pow_lt_pow_iff_right (a := 2) (by decide)).1 (by omega)
  have d : bl n < m + 2 := (Nat.pow_lt_pow_iff_right (a := 2) (by decide)).1 (by rw [Nat.pow_succ] at *; omega)
  omega
theorem bl_le_iff {n m : Nat} : bl n ≤ m ↔ n < 2 ^ m := by
  constructor
  · intro h; exact Nat.lt_of_lt_of_le (bl_lt n) (Nat.pow_le_pow_right (by decide) h)
  · intro h
    by_cases g : n = 0
    · rw [g, bl_zero]; omega
    · have b := bl_le g
      have : bl n < m + 1 := (Nat.pow_lt_pow_iff_right (a := 2) (by decide)).1 (by rw [Nat.pow_succ]; omega)
      omega
/-- The bits of a number whose highest word is w. -/
theorem bl_top {v w m : Nat} (hv : v < 18446744073709551616 ^ m) (hw : w ≠ 0) : bl (v + 18446744073709551616 ^ m * w) = 64 * m + bl w := by
  have a := bl_lt w; have b := bl_le hw; have c := bl_ne hw
  have e : (18446744073709551616 : Nat) ^ m = 2 ^ (64 * m) := by rw [Nat.pow_mul]
  rw [e] at hv ⊢
  have e3 : 64 * m + bl w = (64 * m + (bl w - 1)) + 1 := by omega
  rw [e3]
  apply bl_unique
  · have : 2 ^ (64 * m) * 2 ^ (bl w - 1) ≤ 2 ^ (64 * m) * w := by
      refine Nat.mul_le_mul_left _ ?_
      have e2 : bl w = (bl w - 1) + 1 := by omega
      rw [e2, Nat.pow_succ] at b; omega
    rw [Nat.pow_add]; omega
  · rw [← e3, Nat.pow_add]
    have : 2 ^ (64 * m) * (w + 1) ≤ 2 ^ (64 * m) * 2 ^ bl w := Nat.mul_le_mul_left _ (by omega)
    rw [Nat.mul_add] at this; omega
theorem big_lt_iff {x : Nat} : x < big ↔ bl x ≤ 65536 := by
  have h : ∀ m, x < 18446744073709551616 ^ m ↔ bl x ≤ 64 * m := fun m => by
    have e : (18446744073709551616 : Nat) ^ m = 2 ^ (64 * m) := by rw [Nat.pow_mul]
    rw [e, bl_le_iff]
  unfold big
  exact h 1024
theorem shr_all {P S t X v : Nat} (ht : t < P) (hv : v = t + P * X) : v / (P * S) = X / S ∧ v % (P * S) = t + P * (X % S) := by
  have hp : 0 < P := by omega
  subst hv
  have e : (t + P * X) / P = X := by rw [Nat.add_mul_div_left _ _ hp, Nat.div_eq_of_lt ht]; omega
  have e2 : (t + P * X) % P = t := by rw [Nat.add_mul_mod_self_left, Nat.mod_eq_of_lt ht]
  constructor
  · rw [← Nat.div_div_eq_div_mul, e]
  · rw [Nat.mod_mul, e, e2]
theorem ofN_ne {v : Nat} : ofN v = [] ↔ v = 0 := by
  constructor
  · intro h; have := val_ofN v; rw [h] at this; exact this.symm
  · intro h; rw [h, ofN_zero]
end Go.Proofs.YtdbhednhhmbooaaDoor.Nm
namespace Go.Proofs.YtdbhednhhmbooaaDoor.Nm
set_option linter.unusedVariables false
theorem val_drop (l : List Int) (i : Nat) (h : i < l.length) : val (l.drop i) = (l.getD i 0).toNat + 18446744073709551616 * val (l.drop (i + 1)) := by
  rw [List.drop_eq_getElem_cons h, val_cons, List.getD_eq_getElem?_getD, List.getElem?_eq_getElem h]; rfl
end Go.Proofs.YtdbhednhhmbooaaDoor.Nm
namespace Go.Proofs.YtdbhednhhmbooaaDoor.Nf
open Go.RowKit Go.Proofs.YtdbhednhhmbooaaDoor.PAll Go.Proofs.YtdbhednhhmbooaaDoorW.PrintWords Go.Proofs.YtdbhednhhmbooaaDoorW.PrintLast Go.Proofs.YtdbhednhhmbooaaDoorW.PrintMore Go.Proofs.YtdbhednhhmbooaaDoor.Nm
set_option linter.unusedVariables false
set_option linter.unusedSimpArgs false
theorem wrapU {x : Int} (h0 : 0 ≤ x) (h1 : x < 18446744073709551616) : IntKind.u64.wrap x = x := by
  rw [IntKind.wrap_u64]; omega
theorem wrapS {x : Int} (h0 : -9223372036854775808 ≤ x) (h1 : x < 9223372036854775808) : wrap64 x = x := by
  unfold wrap64; omega
theorem rd_nat (l : List Int) (j : Nat) : rd l (j : Int) = l.getD j 0 := by simp [rd]
theorem bind_s {α β : Type} (a : α) (f : α → Option β) : (some a).bind f = f a := by simp
theorem norm_eq (n : Nat) : ∀ (l : List Int) (k : Nat), l.length = n → Ws l → n < 4611686018427387904 → n < k → nat_norm.f k l = some (ofN (val l)) := by
  unfold nat_norm.f
  induction n with
  | zero =>
    intro l k hl hw hn hk
    obtain ⟨k, rfl⟩ : ∃ m, k = m + 1 := ⟨k - 1, by omega⟩
    obtain rfl := List.eq_nil_of_length_eq_zero hl
    simp [nat_norm.l0, val, ofN_zero]
  | succ n ih =>
    intro l k hl hw hn hk
    obtain ⟨k, rfl⟩ : ∃ m, k = m + 1 := ⟨k - 1, by omega⟩
    simp only [nat_norm.l0]
    have e : wrap64 ((l.length : Int) - 1) = (n : Int) := by rw [wrapS (by omega) (by omega)]; omega
    rw [e, if_pos (by omega), if_pos (by omega), if_pos (by omega), rd_nat]
    have hv := val_take_succ l n (by omega)
    rw [val_take_ge l (n + 1) (by omega)] at hv
    by_cases h : l.getD n 0 = 0
    · rw [if_pos h, if_pos (by omega), Int.toNat_natCast, ih (l.take n) k (by rw [List.length_take]; omega) (ws_take hw n) (by omega) (by omega)]
      rw [h] at hv
      simp at hv; rw [hv]
    · rw [if_neg h]
      congr 1
      refine eq_ofN hw ?_
      have hs : l = l.take n ++ [l.getD n 0] := by
        have := List.take_succ_eq_append_getElem (l := l) (i := n) (by omega)
        rw [List.take_of_length_le (by omega)] at this
        rw [List.getD_eq_getElem?_getD, List.getElem?_eq_getElem (by omega)]
        exact this
      rw [hs]; exact nrm_of_last h
theorem great_eq (l : List Int) : nat_number_great.f l = some (decide (1024 < l.length)) := by
  unfold nat_number_great.f; congr 1; rw [Bool.eq_iff_iff]; simp; omega
theorem great_ofN (v : Nat) : nat_number_great.f (ofN v) = some (decide (¬ v < big)) := by
  have e : (1024 < (ofN v).length) ↔ ¬ v < big := by rw [← ofN_big]; omega
  rw [great_eq, decide_eq_decide.2 e]
theorem one_eq (l : List Int) (k : Nat) (hw : Ws l) (hn : l.length < 4611686018427387904) (hk : l.length < k) :
    nat_one.f k l = some (if val l < big then (ofN (val l), 0) else ([], 3)) := by
  unfold nat_one.f; rw [norm_eq _ l k rfl hw hn hk]; simp only [bind_s]; rw [great_ofN]; simp only [bind_s]
  by_cases h : val l < big <;> simp [h]
theorem own_eq (l : List Int) (h : l.length < 17592186044416) : nat_number_own.f l = some l := by
  unfold nat_number_own.f; rw [if_pos (by simpa using h)]; rfl
end Go.Proofs.YtdbhednhhmbooaaDoor.Nf
namespace Go.Proofs.YtdbhednhhmbooaaDoor.Nf
open Go.RowKit Go.Proofs.YtdbhednhhmbooaaDoor.PAll Go.Proofs.YtdbhednhhmbooaaDoorW.PrintWords Go.Proofs.YtdbhednhhmbooaaDoorW.PrintLast Go.Proofs.YtdbhednhhmbooaaDoorW.PrintMore Go.Proofs.YtdbhednhhmbooaaDoor.Nm
set_option linter.unusedVariables false
set_option linter.unusedSimpArgs false
theorem ws_wf {l : List Int} (h : ∀ x ∈ l, (Lit.int .u64 x).wf = true) : Ws l := by
  intro x hx
  have := h x hx
  simp [Lit.wf, IntKind.min, IntKind.max, IntKind.bits, IntKind.signed] at this
  omega
theorem word_eq (l : List Int) (i : Nat) : ulpref03_word.f l (i : Int) = some (l.getD i 0) := by
  unfold ulpref03_word.f
  by_cases h : i < l.length
  · rw [if_pos (by omega), if_pos (by omega), rd_nat]
  · rw [if_neg (by omega), getD_ge _ _ (by omega)]
theorem ofN_take {l : List Int} (hw : Ws l) {j : Nat} (hj : j < l.length) (h : l.getD j 0 ≠ 0) : l.take (j + 1) = ofN (val (l.take (j + 1))) := by
  refine eq_ofN (ws_take hw _) ?_
  rw [List.take_succ_eq_append_getElem hj]
  refine nrm_of_last ?_
  rwa [List.getD_eq_getElem?_getD, List.getElem?_eq_getElem hj] at h
theorem rnorm_loop (l : List Int) (hw : Ws l) (hn : l.length < 17592186044416) (n : Nat) : ∀ k, n ≤ l.length → n < k → ulpref03_Norm.l0 k l n = some (ofN (val (l.take n))) := by
  induction n with
  | zero =>
    intro k hj hk
    obtain ⟨k, rfl⟩ : ∃ m, k = m + 1 := ⟨k - 1, by omega⟩
    simp only [ulpref03_Norm.l0]
    rw [if_neg (by omega), if_pos (by omega), if_pos (by omega), if_pos (by simp)]
    simp [val, ofN_zero]
  | succ n ih =>
    intro k hj hk
    obtain ⟨k, rfl⟩ : ∃ m, k = m + 1 := ⟨k - 1, by omega⟩
    simp only [ulpref03_Norm.l0]
    have e : wrap64 (((n + 1 : Nat) : Int) - 1) = (n : Int) := by rw [wrapS (by omega) (by omega)]; omega
    rw [e, if_pos (by omega), if_pos (by omega), if_pos (by omega), rd_nat]
    by_cases h : l.getD n 0 = 0
    · rw [if_pos h, ih k (by omega) (by omega), val_take_succ l n (by omega), h]; simp
    · rw [if_neg h, if_pos (by omega), if_pos (by omega), Int.toNat_natCast, if_pos (by rw [List.length_take]; simp; omega), List.nil_append, ← ofN_take hw (by omega) h]
theorem rnorm_eq (l : List Int) (k : Nat) (hw : Ws l) (hn : l.length < 17592186044416) (hk : l.length < k) : ulpref03_Norm.f k l = some (ofN (val l)) := by
  unfold ulpref03_Norm.f
  rw [rnorm_loop l hw hn _ k (Nat.le_refl _) hk, val_take_ge _ _ (Nat.le_refl _)]
theorem val_take_lt {l : List Int} (h : Ws l) (j : Nat) : val (l.take j) < 18446744073709551616 ^ j := by
  have a := val_lt (ws_take h j)
  refine Nat.lt_of_lt_of_le a (Nat.pow_le_pow_right (by decide) ?_)
  rw [List.length_take]; omega
theorem wrap_succ {j : Nat} (h : j < 4611686018427387904) : wrap64 ((j : Int) + 1) = ((j + 1 : Nat) : Int) := by rw [wrapS (by omega) (by omega)]; omega
theorem rgreat_loop (l : List Int) (hw : Ws l) (hn : l.length < 4611686018427387904) (r : Nat) : ∀ (j k : Nat), l.length - j = r → j ≤ l.length → r < k →
    ulpref03_Great.l0 k ((ofN (val (l.take j))).length : Int) l l.length j = some (decide (1024 < (ofN (val l)).length)) := by
  induction r with
  | zero =>
    intro j k hr hj hk
    obtain ⟨k, rfl⟩ : ∃ m, k = m + 1 := ⟨k - 1, by omega⟩
    obtain rfl : j = l.length := by omega
    simp only [ulpref03_Great.l0]
    rw [if_neg (by omega), val_take_ge _ _ (Nat.le_refl _)]
    exact congrArg some (decide_eq_decide.2 (by omega))
  | succ r ih =>
    intro j k hr hj hk
    obtain ⟨k, rfl⟩ : ∃ m, k = m + 1 := ⟨k - 1, by omega⟩
    simp only [ulpref03_Great.l0]
    have := ih (j + 1) k (by omega) (by omega) (by omega)
    rw [if_pos (by omega), if_pos (by omega), if_pos (by omega), rd_nat, wrap_succ (by omega)]
    by_cases h : l.getD j 0 = 0
    · rw [if_pos h]
      rw [take_succ_getD, h] at this
      simpa using this
    · rw [if_neg h]
      rw [← ofN_take hw (by omega) h, List.length_take, Nat.min_eq_left (by omega)] at this
      exact this
theorem rgreat_eq (l : List Int) (k : Nat) (hw : Ws l) (hn : l.length < 4611686018427387904) (hk : l.length < k) : ulpref03_Great.f k l = some (decide (¬ val l < big)) := by
  unfold ulpref03_Great.f
  have := rgreat_loop l hw hn _ 0 k rfl (by omega) (by omega)
  have e : (1024 < (ofN (val l)).length) ↔ ¬ val l < big := by rw [← ofN_big]; omega
  have e0 : ((ofN (val (l.take 0))).length : Int) = 0 := by simp [val, ofN_zero]
  rw [e0] at this
  exact this.trans (congrArg some (decide_eq_decide.2 e))
theorem same_loop (l : List Int) (hn : l.length < 4611686018427387904) (r : Nat) : ∀ (j k : Nat), l.length - j = r → j ≤ l.length → r < k → ulpref03_Same.l0 k l l l.length j = some true := by
  induction r with
  | zero =>
    intro j k hr hj hk
    obtain ⟨k, rfl⟩ : ∃ m, k = m + 1 := ⟨k - 1, by omega⟩
    simp only [ulpref03_Same.l0]; rw [if_neg (by omega)]
  | succ r ih =>
    intro j k hr hj hk
    obtain ⟨k, rfl⟩ : ∃ m, k = m + 1 := ⟨k - 1, by omega⟩
    simp only [ulpref03_Same.l0]; rw [if_pos (by omega), if_pos (by omega), if_pos (by omega), if_pos (by omega), if_pos trivial, wrap_succ (by omega), ih (j + 1) k (by omega) (by omega) (by omega)]
theorem same_eq (l : List Int) (k : Nat) (hn : l.length < 4611686018427387904) (hk : l.length < k) : ulpref03_Same.f k l l = some true := by
  unfold ulpref03_Same.f
  rw [if_pos rfl]
  exact same_loop l hn _ 0 k rfl (by omega) (by omega)
theorem len_big {a : Nat} (ha : a < big) : (ofN a).length ≤ 1024 := (ofN_big a).2 ha
end Go.Proofs.YtdbhednhhmbooaaDoor.Nf
namespace Go.Proofs.YtdbhednhhmbooaaDoor.Nf
open Go.RowKit Go.Proofs.YtdbhednhhmbooaaDoor.PAll Go.Proofs.YtdbhednhhmbooaaDoorW.PrintWords Go.Proofs.YtdbhednhhmbooaaDoorW.PrintLast Go.Proofs.YtdbhednhhmbooaaDoorW.PrintMore Go.Proofs.YtdbhednhhmbooaaDoor.Nm
set_option linter.unusedVariables false
set_option linter.unusedSimpArgs false
theorem toNat_pow2 (s : Nat) : ((2 : Int) ^ s) = ((2 ^ s : Nat) : Int) := by simp
theorem shr_eq (w s : Nat) (hs : s ≤ 64) : shr .u64 (w : Int) (s : Int) = ((w / 2 ^ s : Nat) : Int) := by
  unfold shr
  rw [Int.toNat_natCast, Nat.min_eq_left (show s ≤ IntKind.u64.bits from hs), toNat_pow2]
  rfl
theorem pow_split {s : Nat} (hs : s ≤ 64) : 2 ^ s * 2 ^ (64 - s) = 18446744073709551616 := by
  rw [← Nat.pow_add, Nat.add_sub_cancel' hs]
theorem asNat {x : Int} (h : 0 ≤ x) : x = ((x.toNat : Nat) : Int) := by omega
end Go.Proofs.YtdbhednhhmbooaaDoor.Nf
namespace Go.Proofs.YtdbhednhhmbooaaDoor.Nf
open Go.RowKit Go.Proofs.YtdbhednhhmbooaaDoor.PAll Go.Proofs.YtdbhednhhmbooaaDoorW.PrintWords Go.Proofs.YtdbhednhhmbooaaDoorW.PrintLast Go.Proofs.YtdbhednhhmbooaaDoorW.PrintMore Go.Proofs.YtdbhednhhmbooaaDoor.Nm
set_option linter.unusedVariables false
set_option linter.unusedSimpArgs false
theorem rlen_loop (w : Nat) : ∀ (m k : Nat), w < 18446744073709551616 → m + bl w < 4611686018427387904 → bl w < k → ulpref03_Len.l0 k m w = some ((m + bl w : Nat) : Int) := by
  induction w using Nat.strongRecOn with
  | _ w ih =>
    intro m k hw hm hk
    obtain ⟨k, rfl⟩ : ∃ z, k = z + 1 := ⟨k - 1, by omega⟩
    simp only [ulpref03_Len.l0]
    by_cases h : w = 0
    · subst h; rw [if_neg (by omega), bl_zero]; rfl
    · rw [bl_pos h] at hm hk ⊢
      have e : IntKind.u64.wrap (Int.tdiv (w : Int) 2) = ((w / 2 : Nat) : Int) := by
        rw [Int.tdiv_eq_ediv_of_nonneg (by omega), wrapU (by omega) (by omega)]; omega
      rw [if_pos (by omega), wrap_succ (by omega), e, ih (w / 2) (by omega) (m + 1) k (by omega) (by omega) (by omega)]
      congr 2; omega
theorem bl_word {w : Nat} (h : w < 18446744073709551616) : bl w ≤ 64 := bl_le_iff.2 h
theorem ofN_last {v : Nat} (h : v ≠ 0) : ∃ m t w : Nat, (ofN v).length = m + 1 ∧ v = t + 18446744073709551616 ^ m * w ∧ t < 18446744073709551616 ^ m ∧ w ≠ 0 ∧ w < 18446744073709551616 ∧ (ofN v).getD m 0 = (w : Int) := by
  have hl : ofN v ≠ [] := fun z => h (ofN_ne.1 z)
  have hp := List.length_pos_iff.2 hl
  obtain ⟨m, hm⟩ : ∃ m, (ofN v).length = m + 1 := ⟨(ofN v).length - 1, by omega⟩
  have hv := val_take_succ (ofN v) m (by omega)
  rw [val_take_ge _ _ (by omega), val_ofN] at hv
  obtain ⟨p0, p1⟩ := ws_get (ws_ofN v) m
  have ht := val_take_lt (ws_ofN v) m
  refine ⟨m, _, ((ofN v).getD m 0).toNat, hm, hv, ht, ?_, by omega, by omega⟩
  intro z
  rw [z, Nat.mul_zero, Nat.add_zero] at hv
  have := (ofN_len v m).2 (by omega)
  omega
theorem len_bl {v : Nat} (h : v ≠ 0) : ∃ m w : Nat, (ofN v).length = m + 1 ∧ bl v = 64 * m + bl w ∧ w ≠ 0 ∧ w < 18446744073709551616 ∧ (ofN v).getD m 0 = (w : Int) := by
  obtain ⟨m, t, w, h1, h2, h3, h4, h5, h6⟩ := ofN_last h
  refine ⟨m, w, h1, ?_, h4, h5, h6⟩
  rw [h2, bl_top h3 h4]
theorem rlen_eq (a : List Int) (k : Nat) (ha : Ws a) (na : a.length < 17592186044000) (hk : a.length + 100 < k) : ulpref03_Len.f k a = some ((bl (val a) : Nat) : Int) := by
  unfold ulpref03_Len.f
  have hlen : (ofN (val a)).length ≤ a.length := (ofN_len _ _).2 (val_lt ha)
  rw [rnorm_eq a k ha (by omega) (by omega), bind_s]
  by_cases h : val a = 0
  · rw [h, ofN_zero, bl_zero]; rfl
  · obtain ⟨m, w, h1, h2, h3, h4, h5⟩ := len_bl h
    have hb := bl_word h4
    have e1 : wrap64 (((ofN (val a)).length : Int) - 1) = (m : Int) := by rw [wrapS (by omega) (by omega)]; omega
    have e2 : wrap64 (64 * (m : Int)) = ((64 * m : Nat) : Int) := by rw [wrapS (by omega) (by omega)]; omega
    have hk2 : bl w < k := by omega
    have hm : 64 * m + bl w < 4611686018427387904 := by omega
    rw [if_neg (by omega), e1, e2, if_pos (by omega), if_pos (by omega), rd_nat, h5, rlen_loop w _ k h4 hm hk2, h2]
end Go.Proofs.YtdbhednhhmbooaaDoor.Nf
namespace Go.Proofs.YtdbhednhhmbooaaDoor.Nf
open Go.RowKit Go.Proofs.YtdbhednhhmbooaaDoor.PAll Go.Proofs.YtdbhednhhmbooaaDoorW.PrintWords Go.Proofs.YtdbhednhhmbooaaDoorW.PrintLast Go.Proofs.YtdbhednhhmbooaaDoorW.PrintMore Go.Proofs.YtdbhednhhmbooaaDoor.Nm
set_option linter.unusedVariables false
set_option linter.unusedSimpArgs false
theorem ofN_zero_iff {v : Nat} : (ofN v).length = 0 ↔ v = 0 := by rw [List.length_eq_zero_iff, ofN_ne]
theorem i64_wf {n : Int} (h : (Lit.int .i64 n).wf = true) : -9223372036854775808 ≤ n ∧ n < 9223372036854775808 := by
  simp [Lit.wf, IntKind.min, IntKind.max, IntKind.bits, IntKind.signed] at h
  omega
end Go.Proofs.YtdbhednhhmbooaaDoor.Nf
namespace Go.Proofs.YtdbhednhhmbooaaDoor.Nf
open Go.RowKit Go.Proofs.YtdbhednhhmbooaaDoor.PAll Go.Proofs.YtdbhednhhmbooaaDoorW.PrintWords Go.Proofs.YtdbhednhhmbooaaDoorW.PrintLast Go.Proofs.YtdbhednhhmbooaaDoorW.PrintMore Go.Proofs.YtdbhednhhmbooaaDoor.Nm
set_option linter.unusedVariables false
set_option linter.unusedSimpArgs false
theorem divN (x n : Nat) : (x : Int) / (n : Int) = ((x / n : Nat) : Int) := (Int.natCast_ediv x n).symm
theorem tmodN (x n : Nat) : Int.tmod (x : Int) (n : Int) = ((x % n : Nat) : Int) := (Int.ofNat_tmod x n).symm
/-- The table of lengths. -/
theorem len8_fit : ∀ i : Fin 256, (i.val = 0 ∧ bt (⟨#[0, 1, 2, 2, 3, 3, 3, 3, 4, 4, 4, 4, 4, 4, 4, 4, 5, 5, 5, 5, 5, 5, 5, 5, 5, 5, 5, 5, 5, 5, 5, 5, 6, 6, 6, 6, 6, 6, 6, 6, 6, 6, 6, 6, 6, 6, 6, 6, 6, 6, 6, 6, 6, 6, 6, 6, 6, 6, 6, 6, 6, 6, 6, 6, 7, 7, 7, 7, 7, 7, 7, 7, 7, 7, 7, 7, 7, 7, 7, 7, 7, 7, 7, 7, 7, 7, 7, 7, 7, 7, 7, 7, 7, 7, 7, 7, 7, 7, 7, 7, 7, 7, 7, 7, 7, 7, 7, 7, 7, 7, 7, 7, 7, 7, 7, 7, 7, 7, 7, 7, 7, 7, 7, 7, 7, 7, 7, 7, 8, 8, 8, 8, 8, 8, 8, 8, 8, 8, 8, 8, 8, 8, 8, 8, 8, 8, 8, 8, 8, 8, 8, 8, 8, 8, 8, 8, 8, 8, 8, 8, 8, 8, 8, 8, 8, 8, 8, 8, 8, 8, 8, 8, 8, 8, 8, 8, 8, 8, 8, 8, 8, 8, 8, 8, 8, 8, 8, 8, 8, 8, 8, 8, 8, 8, 8, 8, 8, 8, 8, 8, 8, 8, 8, 8, 8, 8, 8, 8, 8, 8, 8, 8, 8, 8, 8, 8, 8, 8, 8, 8, 8, 8, 8, 8, 8, 8, 8, 8, 8, 8, 8, 8, 8, 8, 8, 8, 8, 8, 8, 8, 8, 8, 8, 8, 8, 8, 8, 8, 8, 8, 8, 8, 8, 8, 8, 8]⟩ : ByteArray) (i.val : Int) = 0) ∨
    ∃ t : Fin 8, 2 ^ t.val ≤ i.val ∧ i.val < 2 ^ (t.val + 1) ∧ bt (⟨#[0, 1, 2, 2, 3, 3, 3, 3, 4, 4, 4, 4, 4, 4, 4, 4, 5, 5, 5, 5, 5, 5, 5, 5, 5, 5, 5, 5, 5, 5, 5, 5, 6, 6, 6, 6, 6, 6, 6, 6, 6, 6, 6, 6, 6, 6, 6, 6, 6, 6, 6, 6, 6, 6, 6, 6, 6, 6, 6, 6, 6, 6, 6, 6, 7, 7, 7, 7, 7, 7, 7, 7, 7, 7, 7, 7, 7, 7, 7, 7, 7, 7, 7, 7, 7, 7, 7, 7, 7, 7, 7, 7, 7, 7, 7, 7, 7, 7, 7, 7, 7, 7, 7, 7, 7, 7, 7, 7, 7, 7, 7, 7, 7, 7, 7, 7, 7, 7, 7, 7, 7, 7, 7, 7, 7, 7, 7, 7, 8, 8, 8, 8, 8, 8, 8, 8, 8, 8, 8, 8, 8, 8, 8, 8, 8, 8, 8, 8, 8, 8, 8, 8, 8, 8, 8, 8, 8, 8, 8, 8, 8, 8, 8, 8, 8, 8, 8, 8, 8, 8, 8, 8, 8, 8, 8, 8, 8, 8, 8, 8, 8, 8, 8, 8, 8, 8, 8, 8, 8, 8, 8, 8, 8, 8, 8, 8, 8, 8, 8, 8, 8, 8, 8, 8, 8, 8, 8, 8, 8, 8, 8, 8, 8, 8, 8, 8, 8, 8, 8, 8, 8, 8, 8, 8, 8, 8, 8, 8, 8, 8, 8, 8, 8, 8, 8, 8, 8, 8, 8, 8, 8, 8, 8, 8, 8, 8, 8, 8, 8, 8, 8, 8, 8, 8, 8, 8]⟩ : ByteArray) (i.val : Int) = ((t.val + 1 : Nat) : Int) := by decide +kernel
def len8 : ByteArray := ⟨#[0, 1, 2, 2, 3, 3, 3, 3, 4, 4, 4, 4, 4, 4, 4, 4, 5, 5, 5, 5, 5, 5, 5, 5, 5, 5, 5, 5, 5, 5, 5, 5, 6, 6, 6, 6, 6, 6, 6, 6, 6, 6, 6, 6, 6, 6, 6, 6, 6, 6, 6, 6, 6, 6, 6, 6, 6, 6, 6, 6, 6, 6, 6, 6, 7, 7, 7, 7, 7, 7, 7, 7, 7, 7, 7, 7, 7, 7, 7, 7, 7, 7, 7, 7, 7, 7, 7, 7, 7, 7, 7, 7, 7, 7, 7, 7, 7, 7, 7, 7, 7, 7, 7, 7, 7, 7, 7, 7, 7, 7, 7, 7, 7, 7, 7, 7, 7, 7, 7, 7, 7, 7, 7, 7, 7, 7, 7, 7, 8, 8, 8, 8, 8, 8, 8, 8, 8, 8, 8, 8, 8, 8, 8, 8, 8, 8, 8, 8, 8, 8, 8, 8, 8, 8, 8, 8, 8, 8, 8, 8, 8, 8, 8, 8, 8, 8, 8, 8, 8, 8, 8, 8, 8, 8, 8, 8, 8, 8, 8, 8, 8, 8, 8, 8, 8, 8, 8, 8, 8, 8, 8, 8, 8, 8, 8, 8, 8, 8, 8, 8, 8, 8, 8, 8, 8, 8, 8, 8, 8, 8, 8, 8, 8, 8, 8, 8, 8, 8, 8, 8, 8, 8, 8, 8, 8, 8, 8, 8, 8, 8, 8, 8, 8, 8, 8, 8, 8, 8, 8, 8, 8, 8, 8, 8, 8, 8, 8, 8, 8, 8, 8, 8, 8, 8, 8, 8]⟩
theorem len8_eq (i : Nat) (h : i < 256) : bt len8 (i : Int) = (bl i : Int) := by
  rcases len8_fit ⟨i, h⟩ with ⟨h1, h2⟩ | ⟨t, h1, h2, h3⟩
  · have h1' : i = 0 := h1
    subst h1'
    rw [bl_zero]; exact h2
  · rw [bl_unique h1 h2]; exact h3
theorem bl_shift {w t : Nat} (h : 2 ^ t ≤ w) : bl w = bl (w / 2 ^ t) + t := by
  have hp : 0 < 2 ^ t := Nat.pow_pos (by decide)
  have hn : w / 2 ^ t ≠ 0 := by
    have := (Nat.le_div_iff_mul_le hp (x := 1) (y := w)).2 (by omega)
    omega
  have a := bl_lt (w / 2 ^ t); have b := bl_le hn; have c := bl_ne hn
  have d := Nat.div_add_mod w (2 ^ t)
  have e := Nat.mod_lt w hp
  have e2 : bl (w / 2 ^ t) + t = (bl (w / 2 ^ t) - 1 + t) + 1 := by omega
  rw [e2]
  apply bl_unique
  · have : bl (w / 2 ^ t) = (bl (w / 2 ^ t) - 1) + 1 := by omega
    rw [this, Nat.pow_succ] at b
    rw [Nat.pow_add, Nat.mul_comm]
    exact Nat.le_trans (Nat.mul_le_mul_left (2 ^ t) (show 2 ^ (bl (w / 2 ^ t) - 1) ≤ w / 2 ^ t by omega)) (Nat.mul_div_le w (2 ^ t))
  · rw [← e2, Nat.pow_add]
    exact (Nat.div_lt_iff_lt_mul hp).1 a
set_option maxRecDepth 100000 in
theorem Len64_j0 (k w m : Nat) (hw : w < 4294967296) (hm : m ≤ 32) : bits_Len64.j0 (k + 1) w m = some ((m + bl w : Nat) : Int) := by
  have q16 : wrap64 ((m : Int) + 16) = ((m + 16 : Nat) : Int) := by rw [wrapS (by omega) (by omega)]; rfl
  have q168 : wrap64 (((m + 16 : Nat) : Int) + 8) = ((m + 16 + 8 : Nat) : Int) := by rw [wrapS (by omega) (by omega)]; rfl
  have q8 : wrap64 ((m : Int) + 8) = ((m + 8 : Nat) : Int) := by rw [wrapS (by omega) (by omega)]; rfl
  have qb : ∀ x : Nat, x ≤ 8 → wrap64 (x : Int) = (x : Int) := fun x h => wrapS (by omega) (by omega)
  have qa : ∀ a x : Nat, a ≤ 100 → x ≤ 8 → wrap64 ((a : Int) + (x : Int)) = ((a + x : Nat) : Int) := fun a x h g => by rw [wrapS (by omega) (by omega)]; omega
  simp only [bits_Len64.j0]
  have d1 : (w : Int) / 65536 = ((w / 65536 : Nat) : Int) := divN w 65536
  have d2 : ((w / 65536 : Nat) : Int) / 256 = ((w / 65536 / 256 : Nat) : Int) := divN _ 256
  have d3 : (w : Int) / 256 = ((w / 256 : Nat) : Int) := divN w 256
  have m1 : ∀ x : Nat, x < 256 → ((x : Nat) : Int) % 256 = (x : Int) := fun x h => by omega
  have bl8 : ∀ x, x < 256 → bl x ≤ 8 := fun x h => bl_le_iff.2 h
  have t1 : ∀ x : Nat, x < 256 → bt (⟨#[0, 1, 2, 2, 3, 3, 3, 3, 4, 4, 4, 4, 4, 4, 4, 4, 5, 5, 5, 5, 5, 5, 5, 5, 5, 5, 5, 5, 5, 5, 5, 5, 6, 6, 6, 6, 6, 6, 6, 6, 6, 6, 6, 6, 6, 6, 6, 6, 6, 6, 6, 6, 6, 6, 6, 6, 6, 6, 6, 6, 6, 6, 6, 6, 7, 7, 7, 7, 7, 7, 7, 7, 7, 7, 7, 7, 7, 7, 7, 7, 7, 7, 7, 7, 7, 7, 7, 7, 7, 7, 7, 7, 7, 7, 7, 7, 7, 7, 7, 7, 7, 7, 7, 7, 7, 7, 7, 7, 7, 7, 7, 7, 7, 7, 7, 7, 7, 7, 7, 7, 7, 7, 7, 7, 7, 7, 7, 7, 8, 8, 8, 8, 8, 8, 8, 8, 8, 8, 8, 8, 8, 8, 8, 8, 8, 8, 8, 8, 8, 8, 8, 8, 8, 8, 8, 8, 8, 8, 8, 8, 8, 8, 8, 8, 8, 8, 8, 8, 8, 8, 8, 8, 8, 8, 8, 8, 8, 8, 8, 8, 8, 8, 8, 8, 8, 8, 8, 8, 8, 8, 8, 8, 8, 8, 8, 8, 8, 8, 8, 8, 8, 8, 8, 8, 8, 8, 8, 8, 8, 8, 8, 8, 8, 8, 8, 8, 8, 8, 8, 8, 8, 8, 8, 8, 8, 8, 8, 8, 8, 8, 8, 8, 8, 8, 8, 8, 8, 8, 8, 8, 8, 8, 8, 8, 8, 8, 8, 8, 8, 8, 8, 8, 8, 8, 8, 8]⟩ : ByteArray) (x : Int) = (bl x : Int) := len8_eq
  rw [d1, d2, d3]
  by_cases h : 65536 ≤ w
  · have s1 := bl_shift (w := w) (t := 16) h
    have l1 : w / 65536 < 65536 := by omega
    rw [if_pos (by omega)]
    by_cases g : 256 ≤ w / 65536
    · have s2 := bl_shift (w := w / 65536) (t := 8) g
      have l2 : w / 65536 / 256 < 256 := by omega
      have l3 := bl8 _ l2
      rw [if_pos (by omega), m1 _ l2, if_pos (by omega), if_pos (by omega), t1 _ l2, q16, q168, qb _ l3, qa _ _ (by omega) l3]
      rw [s1]
      have s2' : bl (w / 65536) = bl (w / 65536 / 256) + 8 := s2
      have s3 : bl (w / 2 ^ 16) = bl (w / 65536 / 256) + 8 := s2
      rw [s3]; congr 1; omega
    · have l2 : w / 65536 < 256 := by omega
      have l3 := bl8 _ l2
      rw [if_neg (by omega), m1 _ l2, if_pos (by omega), if_pos (by omega), t1 _ l2, q16, qb _ l3, qa _ _ (by omega) l3]
      have s3 : bl w = bl (w / 65536) + 16 := s1
      rw [s3]; congr 1; omega
  · rw [if_neg (by omega)]
    by_cases g : 256 ≤ w
    · have s2 := bl_shift (w := w) (t := 8) g
      have l2 : w / 256 < 256 := by omega
      have l3 := bl8 _ l2
      rw [if_pos (by omega), m1 _ l2, if_pos (by omega), if_pos (by omega), t1 _ l2, q8, qb _ l3, qa _ _ (by omega) l3]
      have s3 : bl w = bl (w / 256) + 8 := s2
      rw [s3]; congr 1; omega
    · have l2 : w < 256 := by omega
      have l3 := bl8 _ l2
      rw [if_neg (by omega), m1 _ l2, if_pos (by omega), if_pos (by omega), t1 _ l2, qb _ l3, qa _ _ (by omega) l3]
theorem Len64_eq (k w : Nat) (hw : w < 18446744073709551616) (hk : 1 < k) : bits_Len64.f k w = some ((bl w : Nat) : Int) := by
  obtain ⟨k, rfl⟩ : ∃ m, k = m + 1 := ⟨k - 1, by omega⟩
  unfold bits_Len64.f
  by_cases h : 4294967296 ≤ w
  · have d1 : (w : Int) / 4294967296 = ((w / 4294967296 : Nat) : Int) := divN w 4294967296
    have s1 : bl w = bl (w / 4294967296) + 32 := bl_shift (w := w) (t := 32) h
    have := Len64_j0 k (w / 4294967296) 32 (by omega) (by omega)
    rw [if_pos (by omega), d1, s1]
    refine this.trans ?_
    congr 1; omega
  · have := Len64_j0 k w 0 (by omega) (by omega)
    rw [Nat.zero_add] at this
    rw [if_neg (by omega)]; exact this
end Go.Proofs.YtdbhednhhmbooaaDoor.Nf
namespace Go.Proofs.YtdbhednhhmbooaaDoor.Nf
open Go.RowKit Go.Proofs.YtdbhednhhmbooaaDoor.PAll Go.Proofs.YtdbhednhhmbooaaDoorW.PrintWords Go.Proofs.YtdbhednhhmbooaaDoorW.PrintLast Go.Proofs.YtdbhednhhmbooaaDoorW.PrintMore Go.Proofs.YtdbhednhhmbooaaDoor.Nm
set_option linter.unusedVariables false
set_option linter.unusedSimpArgs false
theorem Of_eq (w k : Nat) (hw : w < 18446744073709551616) (hk : 1 < k) : ulpref03_Of.f k w = some (ofN w) := by
  unfold ulpref03_Of.f
  have : val [(w : Int)] = w := by simp [val]
  rw [rnorm_eq _ k (ws_cons.2 ⟨by omega, ws_nil⟩) (by simp) (by simpa using hk), bind_s, this]
end Go.Proofs.YtdbhednhhmbooaaDoor.Nf

namespace Go.Proofs.YtdbhednhhmbooaaDoor.Nf
open Go.RowKit Go.Proofs.YtdbhednhhmbooaaDoor.PAll Go.Proofs.YtdbhednhhmbooaaDoorW.PrintWords Go.Proofs.YtdbhednhhmbooaaDoorW.PrintLast Go.Proofs.YtdbhednhhmbooaaDoorW.PrintMore Go.Proofs.YtdbhednhhmbooaaDoor.Nm
set_option linter.unusedVariables false
set_option linter.unusedSimpArgs false
theorem low_form (v : Nat) (h : v ≠ 0) : ∃ t m, v = 2 ^ t * (2 * m + 1) := by
  induction v using Nat.strongRecOn with
  | _ v ih =>
    by_cases g : v % 2 = 1
    · exact ⟨0, v / 2, by rw [Nat.pow_zero]; omega⟩
    · obtain ⟨t, m, e⟩ := ih (v / 2) (by omega) (by omega)
      exact ⟨t + 1, m, by rw [Nat.pow_succ, Nat.mul_right_comm, ← e]; omega⟩
theorem low_bit (t m n : Nat) (h : n ≤ t) : (2 ^ t * (2 * m + 1)) / 2 ^ n % 2 = if n = t then 1 else 0 := by
  have hp : 0 < 2 ^ n := Nat.pow_pos (by decide)
  obtain ⟨d, rfl⟩ : ∃ d, t = n + d := ⟨t - n, by omega⟩
  rw [Nat.pow_add, Nat.mul_assoc, Nat.mul_div_cancel_left _ hp]
  by_cases g : d = 0
  · subst g; rw [if_pos (by omega), Nat.pow_zero]; omega
  · rw [if_neg (by omega)]
    obtain ⟨e, rfl⟩ : ∃ e, d = e + 1 := ⟨d - 1, by omega⟩
    rw [Nat.pow_succ, Nat.mul_right_comm]; omega
theorem low_unique {t m s n : Nat} (h : 2 ^ t * (2 * m + 1) = 2 ^ s * (2 * n + 1)) : t = s := by
  rcases Nat.lt_trichotomy t s with g | g | g
  · have a := low_bit t m t (Nat.le_refl _)
    have b := low_bit s n t (Nat.le_of_lt g)
    rw [h, b, if_neg (Nat.ne_of_lt g), if_pos rfl] at a; omega
  · exact g
  · have a := low_bit s n s (Nat.le_refl _)
    have b := low_bit t m s (Nat.le_of_lt g)
    rw [← h, b, if_neg (Nat.ne_of_lt g), if_pos rfl] at a; omega
theorem low_and (t a : Nat) (h : 2 ^ t * (2 * a + 1) < 2 ^ 64) : 2 ^ t * (2 * a + 1) &&& (2 ^ 64 - 2 ^ t * (2 * a + 1)) = 2 ^ t := by
  have hp : 0 < 2 ^ t := Nat.pow_pos (by decide)
  obtain ⟨c, hc⟩ : ∃ c, c + 1 = 2 ^ t * (2 * a + 1) := ⟨2 ^ t * (2 * a + 1) - 1, by have : 0 < 2 ^ t * (2 * a + 1) := Nat.mul_pos hp (by omega); omega⟩
  have hc2 : c = 2 ^ t * (2 * a) + (2 ^ t - 1) := by rw [Nat.mul_add] at hc; omega
  have ht : t < 64 := (Nat.pow_lt_pow_iff_right (a := 2) (by decide)).1 (Nat.lt_of_le_of_lt (Nat.le_mul_of_pos_right _ (by omega)) h)
  apply Nat.eq_of_testBit_eq
  intro i
  rw [Nat.testBit_and, Nat.testBit_two_pow, ← hc, Nat.testBit_two_pow_sub_succ (by omega), hc, hc2, Nat.testBit_two_pow_mul_add _ (by omega)]
  have e0 : 2 ^ t * (2 * a + 1) = 2 ^ t * (2 * a + 1) + 0 := rfl
  rw [e0, Nat.testBit_two_pow_mul_add _ hp]
  by_cases h1 : i < t
  · have : t ≠ i := by omega
    simp [h1, this]
  · rw [if_neg h1, if_neg h1]
    by_cases h2 : t = i
    · subst h2
      rw [Nat.sub_self]; simp [ht]
    · obtain ⟨j, hj⟩ : ∃ j, i - t = j + 1 := ⟨i - t - 1, by omega⟩
      rw [hj, Nat.testBit_succ, Nat.testBit_succ]
      have e1 : (2 * a + 1) / 2 = a := by omega
      have e2 : 2 * a / 2 = a := by omega
      rw [e1, e2]
      cases a.testBit j <;> simp [h2]
theorem tz_table : ∀ t : Fin 64, tzTab.getD (2 ^ t.val * 285870213051353865 % 18446744073709551616 / 288230376151711744) 0 = (t.val : Int) ∧ 2 ^ t.val * 285870213051353865 % 18446744073709551616 / 288230376151711744 < 64 := by decide +kernel
theorem Trail_eq {w t m : Nat} (hw : w = 2 ^ t * (2 * m + 1)) (h : w < 18446744073709551616) : bits_TrailingZeros64.f w = some (t : Int) ∧ t < 64 := by
  have hp : 0 < 2 ^ t := Nat.pow_pos (by decide)
  have h0 : 0 < w := by rw [hw]; exact Nat.mul_pos hp (by omega)
  have h64 : 2 ^ t * (2 * m + 1) < 2 ^ 64 := by rw [← hw]; exact h
  have ht : t < 64 := (Nat.pow_lt_pow_iff_right (a := 2) (by decide)).1 (Nat.lt_of_le_of_lt (Nat.le_mul_of_pos_right _ (by omega)) h64)
  have ha := low_and t m h64
  rw [← hw] at ha
  obtain ⟨b1, b2⟩ := tz_table ⟨t, ht⟩
  have e1 : IntKind.u64.wrap (-(w : Int)) = ((18446744073709551616 - w : Nat) : Int) := by rw [IntKind.wrap_u64]; omega
  have e2 : bits BinOp.and IntKind.u64 (w : Int) ((18446744073709551616 - w : Nat) : Int) = ((2 ^ t : Nat) : Int) := by
    rw [u64_and_nat w _ h (by omega)]
    exact congrArg Nat.cast ha
  have e3 : tzI (w : Int) = ((2 ^ t * 285870213051353865 % 18446744073709551616 / 288230376151711744 : Nat) : Int) := by
    unfold tzI
    rw [e1, e2]
    generalize 2 ^ t = p
    rw [IntKind.wrap_u64]; omega
  refine ⟨?_, ht⟩
  unfold bits_TrailingZeros64.f
  dsimp only at b1 b2
  rw [if_neg (by omega), e3, if_pos (Int.natCast_nonneg _), if_pos (by omega), Int.toNat_natCast, b1]
/-- One bit of a list of words. -/
theorem bit_val {a : List Int} (ha : Ws a) (j s : Nat) (hs : s < 64) : val a / 2 ^ (64 * j + s) % 2 = (a.getD j 0).toNat / 2 ^ s % 2 := by
  have e : 2 ^ (64 * j + s) = 18446744073709551616 ^ j * 2 ^ s := by rw [Nat.pow_add, Nat.pow_mul]
  by_cases h : j < a.length
  · have ht := val_take_lt ha j
    obtain ⟨h1, _⟩ := shr_all (S := 2 ^ s) ht (val_take_drop a j (Nat.le_of_lt h))
    rw [e, h1, val_drop a j h]
    have hp : 0 < 2 ^ s := Nat.pow_pos (by decide)
    have e2 : (18446744073709551616 : Nat) = 2 ^ s * (2 * 2 ^ (63 - s)) := by
      have := pow_split (show s ≤ 64 by omega)
      have e3 : 64 - s = (63 - s) + 1 := by omega
      rw [e3, Nat.pow_succ, Nat.mul_comm _ 2] at this
      exact this.symm
    generalize (a.getD j 0).toNat = w
    generalize val (a.drop (j + 1)) = r
    have e4 : (w + 18446744073709551616 * r) / 2 ^ s = w / 2 ^ s + 2 * 2 ^ (63 - s) * r := by
      have : w + 18446744073709551616 * r = w + 2 ^ s * (2 * 2 ^ (63 - s) * r) := by rw [← Nat.mul_assoc, ← e2]
      rw [this, Nat.add_mul_div_left _ _ hp]
    rw [e4, Nat.mul_assoc]
    omega
  · rw [getD_ge a j (by omega), e]
    have : val a < 18446744073709551616 ^ j := Nat.lt_of_lt_of_le (val_lt ha) (Nat.pow_le_pow_right (by decide) (by omega))
    rw [← Nat.div_div_eq_div_mul, Nat.div_eq_of_lt this]; simp
theorem and1 {w : Nat} (hw : w < 18446744073709551616) : Go.bits .and .u64 (w : Int) 1 = ((w % 2 : Nat) : Int) := by
  have h := u64_and_nat w 1 hw (by decide)
  have e : w &&& 1 = w % 2 := Nat.and_two_pow_sub_one_eq_mod w 1
  rw [e] at h; exact h
theorem rBit_eq (a : List Int) (ha : Ws a) (n : Nat) (hn : n < 9223372036854775808) : ulpref03_Bit.f a n = some (decide (val a / 2 ^ n % 2 = 1)) := by
  unfold ulpref03_Bit.f
  have e1 : wrap64 (Int.tdiv (n : Int) 64) = ((n / 64 : Nat) : Int) := by
    rw [Int.tdiv_eq_ediv_of_nonneg (by omega), wrapS (by omega) (by omega)]; omega
  have e2 : IntKind.u64.wrap (Int.tmod (n : Int) 64) = ((n % 64 : Nat) : Int) := by
    rw [Int.tmod_eq_emod_of_nonneg (by omega), IntKind.wrap_u64]; omega
  have en : val a / 2 ^ n % 2 = (a.getD (n / 64) 0).toNat / 2 ^ (n % 64) % 2 := by
    have := bit_val ha (n / 64) (n % 64) (by omega)
    rw [Nat.div_add_mod] at this; exact this
  obtain ⟨p0, p1⟩ := ws_get ha (n / 64)
  have ew := asNat p0
  rw [en]
  generalize (a.getD (n / 64) 0).toNat = w at *
  have hs : n % 64 ≤ 64 := by omega
  have h2 : Int.tmod (((w / 2 ^ (n % 64) : Nat)) : Int) 2 = ((w / 2 ^ (n % 64) % 2 : Nat) : Int) := tmodN _ 2
  rw [if_pos (by omega), e1, word_eq, bind_s, e2, if_pos (Int.natCast_nonneg _), ew, shr_eq _ _ hs, h2]
  generalize w / 2 ^ (n % 64) % 2 = z
  congr 1
  rw [Bool.eq_iff_iff]; simp; omega
theorem rBit_neg (a : List Int) (i : Int) (h : i < 0) : ulpref03_Bit.f a i = some false := by
  unfold ulpref03_Bit.f; rw [if_neg (by omega)]
theorem Bit_eq (a : List Int) (i : Int) (k : Nat) (ha : Ws a) (hi : i < 9223372036854775808) (na : a.length < 17592186044000) (hk : a.length < k) :
    nat_Bit.f k a i = some (if val a < big then (if i < 0 then (false, 2) else (decide (val a / 2 ^ i.toNat % 2 = 1), 0)) else (false, 3)) := by
  unfold nat_Bit.f
  rw [one_eq a k ha (by omega) (by omega), bind_s]
  by_cases h : val a < big
  · simp only [if_pos h]
    rw [if_pos trivial]
    by_cases g : i < 0
    · rw [if_pos g, if_pos g]
    · obtain ⟨n, rfl⟩ : ∃ n : Nat, i = (n : Int) := ⟨i.toNat, by omega⟩
      have hl := len_big h
      have e1 : wrap64 (Int.tdiv (n : Int) 64) = ((n / 64 : Nat) : Int) := by
        rw [Int.tdiv_eq_ediv_of_nonneg (by omega), wrapS (by omega) (by omega)]; omega
      have e2 : Int.tmod (n : Int) 64 = ((n % 64 : Nat) : Int) := by
        rw [Int.tmod_eq_emod_of_nonneg (by omega)]; omega
      have hs : n % 64 ≤ 64 := by omega
      have en : val (ofN (val a)) / 2 ^ n % 2 = ((ofN (val a)).getD (n / 64) 0).toNat / 2 ^ (n % 64) % 2 := by
        have := bit_val (ws_ofN (val a)) (n / 64) (n % 64) (by omega)
        rw [Nat.div_add_mod] at this; exact this
      rw [val_ofN] at en
      rw [if_neg g, if_neg g, Int.toNat_natCast, e1, e2, en]
      generalize hq : n / 64 = q at *
      by_cases c : q < (ofN (val a)).length
      · obtain ⟨p0, p1⟩ := ws_get (ws_ofN (val a)) q
        have ew := asNat p0
        have cc : ((q : Nat) : Int) < ((ofN (val a)).length : Int) := by omega
        rw [if_pos cc, if_pos (Int.natCast_nonneg _), if_pos (Int.natCast_nonneg _), rd_nat]
        generalize ((ofN (val a)).getD q 0).toNat = w at *
        have w1 : w < 18446744073709551616 := Int.ofNat_lt.1 (ew ▸ p1)
        rw [ew, shr_eq _ _ hs, and1 (Nat.lt_of_le_of_lt (Nat.div_le_self _ _) w1)]
        generalize w / 2 ^ (n % 64) % 2 = z
        congr 2
        rw [Bool.eq_iff_iff]; simp; omega
      · rw [if_neg (by omega), getD_ge _ _ (by omega)]
        simp
  · simp only [if_neg h]
    rw [if_neg (by decide)]
theorem Norm_eq (a : List Int) (k : Nat) (ha : Ws a) (na : a.length < 17592186044000) (hk : a.length < k) : nat_Norm.f k a = some (if val a < big then (ofN (val a), 0) else ([], 3)) := by
  unfold nat_Norm.f
  rw [one_eq a k ha (by omega) (by omega), bind_s]
  by_cases h : val a < big
  · have hl := len_big h
    have ho := own_eq (ofN (val a)) (by omega)
    simp only [if_pos h]
    rw [if_pos trivial, ho, bind_s]
  · simp only [if_neg h]
    rw [if_neg (by decide)]
theorem nOf_eq (w k : Nat) (hw : w < 18446744073709551616) (hk : 1 < k) : nat_Of.f k w = some (ofN w) := by
  unfold nat_Of.f
  have : val [(w : Int)] = w := by simp [val]
  have l1 : (ofN w).length ≤ 1 := (ofN_len w 1).2 hw
  have ho := own_eq (ofN w) (by omega)
  rw [norm_eq 1 _ k rfl (ws_cons.2 ⟨by omega, ws_nil⟩) (by decide) hk, bind_s, this, ho, bind_s]
theorem len_eq (v k : Nat) (hl : (ofN v).length ≤ 1024) (hk : 1 < k) : nat_number_len.f k (ofN v) = some ((bl v : Nat) : Int) := by
  unfold nat_number_len.f
  by_cases h : v = 0
  · have := ofN_zero_iff.2 h
    rw [if_pos (by omega), h, bl_zero]; rfl
  · obtain ⟨m, w, h1, h2, h3, h4, h5⟩ := len_bl h
    have hb := bl_word h4
    have e1 : wrap64 (((ofN v).length : Int) - 1) = (m : Int) := by rw [wrapS (by omega) (by omega)]; omega
    have c0 : ¬ ((ofN v).length : Int) = 0 := by clear e1; omega
    have c1 : (m : Int) < ((ofN v).length : Int) := by clear e1; omega
    have e2 : wrap64 (64 * (m : Int)) = ((64 * m : Nat) : Int) := by clear e1; rw [wrapS (by omega) (by omega)]; omega
    have e3 : wrap64 (((64 * m : Nat) : Int) + ((bl w : Nat) : Int)) = ((64 * m + bl w : Nat) : Int) := by clear e1 e2; rw [wrapS (by omega) (by omega)]; omega
    rw [if_neg c0, e1, if_pos (Int.natCast_nonneg _), if_pos c1, rd_nat, h5, Len64_eq k w h4 hk, bind_s, e2, e3, h2]
theorem Len_eq (a : List Int) (k : Nat) (ha : Ws a) (na : a.length < 17592186044000) (hk : a.length + 1 < k) : nat_Len.f k a = some (if val a < big then (((bl (val a) : Nat) : Int), 0) else (0, 3)) := by
  unfold nat_Len.f
  rw [one_eq a k ha (by omega) (by omega), bind_s]
  by_cases h : val a < big
  · simp only [if_pos h]
    rw [len_eq _ k (len_big h) (by omega), bind_s]
  · simp only [if_neg h]
    have := len_eq 0 k (by rw [ofN_zero]; decide) (by omega)
    rw [ofN_zero, bl_zero] at this
    rw [this, bind_s]; rfl
/-- How many bits 0 a number ends with. -/
theorem low_loop (v : Nat) (e : Int) (hl : (ofN v).length ≤ 1024) (s : Nat) : ∀ (i k : Nat), (ofN v).length - i = s → i ≤ (ofN v).length → s < k → val ((ofN v).take i) = 0 →
    (v = 0 → nat_Low.l0 k e (ofN v) (ofN v).length i = some (0, e)) ∧ (∀ t m : Nat, v = 2 ^ t * (2 * m + 1) → nat_Low.l0 k e (ofN v) (ofN v).length i = some ((t : Int), e)) := by
  induction s with
  | zero =>
    intro i k hs hi hk hz
    obtain ⟨k, rfl⟩ : ∃ z, k = z + 1 := ⟨k - 1, by omega⟩
    obtain rfl : i = (ofN v).length := by omega
    rw [val_take_ge _ _ (Nat.le_refl _), val_ofN] at hz
    have g : nat_Low.l0 (k + 1) e (ofN v) (ofN v).length ((ofN v).length : Nat) = some (0, e) := by
      simp only [nat_Low.l0]; rw [if_neg (by omega)]
    refine ⟨fun _ => g, fun t m ht => ?_⟩
    have : 0 < 2 ^ t * (2 * m + 1) := Nat.mul_pos (Nat.pow_pos (by decide)) (by omega)
    omega
  | succ s ih =>
    intro i k hs hi hk hz
    obtain ⟨k, rfl⟩ : ∃ z, k = z + 1 := ⟨k - 1, by omega⟩
    have i1 : (ofN v).length - (i + 1) = s := by omega
    have i2 : i + 1 ≤ (ofN v).length := by omega
    have i3 : s < k := by omega
    have g1 : (i : Int) < ((ofN v).length : Int) := by omega
    have b3 : i < 4611686018427387904 := by omega
    have i5 : i < (ofN v).length := by omega
    obtain ⟨p0, p1⟩ := ws_get (ws_ofN v) i
    have ew := asNat p0
    have ts := val_take_succ (ofN v) i i5
    have td := val_take_drop (ofN v) i (Nat.le_of_lt i5)
    have vd := val_drop (ofN v) i i5
    rw [hz] at ts td
    rw [val_ofN, vd] at td
    simp only [nat_Low.l0]
    rw [if_pos g1, if_pos (Int.natCast_nonneg _), if_pos g1, rd_nat]
    generalize hwn : ((ofN v).getD i 0).toNat = w at *
    by_cases h : w = 0
    · have := ih (i + 1) k i1 i2 i3 (by rw [ts, h]; simp)
      rw [if_pos (by rw [ew, h]; rfl), wrap_succ b3]
      exact this
    · have w1 : w < 18446744073709551616 := Int.ofNat_lt.1 (ew ▸ p1)
      obtain ⟨s', c, hc⟩ := low_form w h
      obtain ⟨tz, ts64⟩ := Trail_eq hc w1
      have e2 : wrap64 (64 * (i : Int)) = ((64 * i : Nat) : Int) := by rw [wrapS (by omega) (by omega)]; omega
      have e3 : wrap64 (((64 * i : Nat) : Int) + (s' : Int)) = ((64 * i + s' : Nat) : Int) := by clear e2; rw [wrapS (by omega) (by omega)]; omega
      have hw0 : ¬ (w : Int) = 0 := by clear e2 e3; omega
      rw [ew, if_neg hw0, tz, bind_s, e2, e3]
      clear e2 e3
      have hv : v = 2 ^ (64 * i + s') * (2 * (c + 2 ^ (63 - s') * val ((ofN v).drop (i + 1))) + 1) := by
        have eB : (18446744073709551616 : Nat) = 2 ^ s' * (2 * 2 ^ (63 - s')) := by
          have := pow_split (show s' ≤ 64 by omega)
          have e3 : 64 - s' = (63 - s') + 1 := by omega
          rw [e3, Nat.pow_succ, Nat.mul_comm _ 2] at this
          exact this.symm
        have eP : (18446744073709551616 : Nat) ^ i = 2 ^ (64 * i) := by rw [Nat.pow_mul]
        generalize val ((ofN v).drop (i + 1)) = R at *
        have e5 : w + 18446744073709551616 * R = 2 ^ s' * (2 * (c + 2 ^ (63 - s') * R) + 1) := by
          rw [eB, hc, Nat.mul_assoc, ← Nat.mul_add, Nat.mul_add 2 c, Nat.mul_assoc 2]
          congr 1; omega
        rw [Nat.zero_add, e5, eP, ← Nat.mul_assoc, ← Nat.pow_add] at td
        exact td
      refine ⟨fun z => ?_, fun t m ht => ?_⟩
      · have : 0 < 2 ^ (64 * i + s') * (2 * (c + 2 ^ (63 - s') * val ((ofN v).drop (i + 1))) + 1) := Nat.mul_pos (Nat.pow_pos (by decide)) (by omega)
        omega
      · have := low_unique (ht.symm.trans hv)
        rw [this]
theorem big_pos : 0 < big := by
  have h : ∀ m, 0 < 18446744073709551616 ^ m := pow_pos
  unfold big
  exact h 1024
theorem Low_eq (a : List Int) (k : Nat) (ha : Ws a) (na : a.length < 17592186044000) (hk : a.length + 2000 < k) :
    (¬ val a < big → nat_Low.f k a = some (0, 3)) ∧ (val a = 0 → nat_Low.f k a = some (0, 0)) ∧ (val a < big → ∀ t m : Nat, val a = 2 ^ t * (2 * m + 1) → nat_Low.f k a = some ((t : Int), 0)) := by
  unfold nat_Low.f
  rw [one_eq a k ha (by omega) (by omega), bind_s]
  refine ⟨fun h => ?_, fun h => ?_, fun h t m ht => ?_⟩
  · simp only [if_neg h]
    have := (low_loop 0 3 (by rw [ofN_zero]; decide) _ 0 k rfl (Nat.zero_le _) (by rw [ofN_zero]; simp; omega) (by simp [val])).1 rfl
    rw [ofN_zero] at this
    exact this
  · have hb : val a < big := by rw [h]; exact big_pos
    simp only [if_pos hb]
    have := (low_loop 0 0 (by rw [ofN_zero]; decide) _ 0 k rfl (Nat.zero_le _) (by rw [ofN_zero]; simp; omega) (by simp [val])).1 rfl
    rw [h]
    exact this
  · simp only [if_pos h]
    have hl := len_big h
    exact (low_loop (val a) 0 hl _ 0 k rfl (Nat.zero_le _) (by omega) (by simp [val])).2 t m ht
theorem rlow_loop (a : List Int) (ha : Ws a) {t m : Nat} (hv : val a = 2 ^ t * (2 * m + 1)) (ht : t < 4611686018427387904) (s : Nat) : ∀ (n k : Nat), t - n = s → n ≤ t → s < k → ulpref03_Low.l0 k a n = some (t : Int) := by
  induction s with
  | zero =>
    intro n k hs hn hk
    obtain ⟨k, rfl⟩ : ∃ z, k = z + 1 := ⟨k - 1, by omega⟩
    obtain rfl : n = t := by omega
    have := low_bit n m n (Nat.le_refl _)
    simp only [ulpref03_Low.l0]
    rw [rBit_eq a ha n (by omega), bind_s, hv, this, if_pos rfl]; rfl
  | succ s ih =>
    intro n k hs hn hk
    obtain ⟨k, rfl⟩ : ∃ z, k = z + 1 := ⟨k - 1, by omega⟩
    have := low_bit t m n hn
    rw [if_neg (by omega)] at this
    simp only [ulpref03_Low.l0]
    rw [rBit_eq a ha n (by omega), bind_s, hv, this, if_neg (by decide), wrap_succ (by omega)]
    exact ih (n + 1) k (by omega) (by omega) (by omega)
theorem rLow_zero (a : List Int) (k : Nat) (ha : Ws a) (h : val a = 0) (na : a.length < 17592186044000) (hk : a.length + 100 < k) : ulpref03_Low.f k a = some 0 := by
  unfold ulpref03_Low.f
  rw [rlen_eq a k ha na hk, bind_s, h, bl_zero]; rfl
theorem rLow_eq (a : List Int) (k : Nat) (ha : Ws a) {t m : Nat} (hv : val a = 2 ^ t * (2 * m + 1)) (ht : t < 4611686018427387904) (na : a.length < 17592186044000) (hk : a.length + t + 100 < k) : ulpref03_Low.f k a = some (t : Int) := by
  unfold ulpref03_Low.f
  have hp : 0 < 2 ^ t * (2 * m + 1) := Nat.mul_pos (Nat.pow_pos (by decide)) (by omega)
  have hb := bl_ne (n := val a) (by omega)
  rw [rlen_eq a k ha na (by omega), bind_s, if_neg (by omega)]
  exact rlow_loop a ha hv ht _ 0 k rfl (Nat.zero_le _) (by omega)
theorem low_lt {v t m : Nat} (h : v = 2 ^ t * (2 * m + 1)) : t < bl v := by
  have := bl_lt v
  refine (Nat.pow_lt_pow_iff_right (a := 2) (by decide)).1 (Nat.lt_of_le_of_lt ?_ this)
  rw [h]; exact Nat.le_mul_of_pos_right _ (by omega)
end Go.Proofs.YtdbhednhhmbooaaDoor.Nf

namespace Go.Proofs.YtdbhednhhmbooaaDoor.Nf
open Go.RowKit Go.Proofs.YtdbhednhhmbooaaDoor.PAll Go.Proofs.YtdbhednhhmbooaaDoorW.PrintWords
theorem lives_eq (k : Nat) (hk : 3000 ≤ k) : ulplaw03_lives.f k = some true :=
  at_rounds ulplaw03_lives.mono hk (by decide +kernel)
end Go.Proofs.YtdbhednhhmbooaaDoor.Nf

namespace Go.Proofs.YtdbhednhhmbooaaDoor.Pure
open Go.RowKit Go.Proofs.YtdbhednhhmbooaaDoor.PAll Go.Proofs.YtdbhednhhmbooaaDoorW.PrintWords Go.Proofs.YtdbhednhhmbooaaDoorW.PrintLast Go.Proofs.YtdbhednhhmbooaaDoorW.PrintMore
set_option linter.unusedVariables false
set_option linter.unusedSimpArgs false
open Go.Proofs.YtdbhednhhmbooaaDoor.Nm Go.Proofs.YtdbhednhhmbooaaDoor.Nf
theorem u64_wf {n : Int} (h : (Lit.int .u64 n).wf = true) : 0 ≤ n ∧ n < 18446744073709551616 := by
  simp [Lit.wf, IntKind.min, IntKind.max, IntKind.bits, IntKind.signed] at h
  omega
theorem NatParts : ulplaw03_NatParts.Pure := by
  intro a w i _ na wa ww wi
  have ha := ws_wf wa
  obtain ⟨u0, u1⟩ := u64_wf ww
  obtain ⟨i0, i1⟩ := i64_wf wi
  obtain ⟨w, rfl⟩ : ∃ m : Nat, w = (m : Int) := ⟨w.toNat, by omega⟩
  have na' : a.length < 17592186044000 := by omega
  refine ⟨2 * a.length + 200000 + 1 + 1, ?_⟩
  obtain ⟨k, hk⟩ : ∃ k, k = 2 * a.length + 200000 := ⟨_, rfl⟩
  rw [← hk]
  have hw1 : w < 18446744073709551616 := by omega
  have l1 : (ofN w).length ≤ 1 := (ofN_len w 1).2 hw1
  unfold ulplaw03_NatParts.f
  obtain ⟨low1, low2, low3⟩ := Low_eq a (k + 1 + 1) ha na' (by omega)
  rw [Norm_eq a _ ha na' (by omega), bind_s, Len_eq a _ ha na' (by omega), bind_s]
  by_cases h : val a < big
  · have hl := len_big h
    have hbl : bl (val a) ≤ 65536 := big_lt_iff.1 h
    obtain ⟨t, hlow, hrlow⟩ : ∃ t : Nat, nat_Low.f (k + 1 + 1) a = some ((t : Int), 0) ∧ ulpref03_Low.f k a = some (t : Int) := by
      by_cases z : val a = 0
      · exact ⟨0, low2 z, rLow_zero a k ha z na' (by omega)⟩
      · obtain ⟨t, m, e⟩ := low_form (val a) z
        have := low_lt e
        exact ⟨t, low3 h t m e, rLow_eq a k ha e (by omega) na' (by omega)⟩
    rw [hlow, bind_s, Bit_eq a i _ ha i1 na' (by omega), bind_s, lives_eq _ (by omega), bind_s, if_pos rfl, nOf_eq w _ hw1 (by omega), bind_s, Of_eq w _ hw1 (by omega), bind_s, same_eq _ _ (by omega) (by omega), bind_s]
    simp only [if_pos h]
    simp only [ulplaw03_NatParts.j0]
    rw [if_neg (by decide), rgreat_eq a _ ha (by omega) (by omega), bind_s, if_neg (by simpa using h), if_pos trivial, if_pos trivial, if_pos trivial]
    have fin : ∀ b : Bool, ulpref03_Bit.f a i = some b → ulplaw03_NatParts.j1 (k + 1) a i (ofN (val a)) ((bl (val a) : Nat) : Int) (t : Int) b false = some true := by
      intro b hb
      simp only [ulplaw03_NatParts.j1]
      rw [if_neg (by decide), rnorm_eq a k ha (by omega) (by omega), bind_s, same_eq _ _ (by omega) (by omega), bind_s, if_pos rfl, rlen_eq a k ha na' (by omega), bind_s, if_pos rfl, hrlow, bind_s, if_pos rfl, hb, bind_s, beq_self_eq_true]
    by_cases g : i < 0
    · simp only [if_pos g]
      have e : (((2 : Int) == 0) != (decide (i ≥ 0))) = false := by
        have : decide (i ≥ 0) = false := decide_eq_false (by omega)
        rw [this]; rfl
      rw [e, if_neg (by decide), if_neg (by decide)]
      exact fin false (rBit_neg a i g)
    · simp only [if_neg g]
      obtain ⟨n, rfl⟩ : ∃ n : Nat, i = (n : Int) := ⟨i.toNat, by omega⟩
      have e : (((0 : Int) == 0) != (decide ((n : Int) ≥ 0))) = false := by
        have : decide ((n : Int) ≥ 0) = true := decide_eq_true (by omega)
        rw [this]; rfl
      rw [e, if_neg (by decide), if_pos trivial, Int.toNat_natCast]
      exact fin _ (rBit_eq a ha n (by omega))
  · rw [low1 h, bind_s, Bit_eq a i _ ha i1 na' (by omega), bind_s, lives_eq _ (by omega), bind_s, if_pos rfl, nOf_eq w _ hw1 (by omega), bind_s, Of_eq w _ hw1 (by omega), bind_s, same_eq _ _ (by omega) (by omega), bind_s]
    simp only [if_neg h]
    simp only [ulplaw03_NatParts.j0]
    rw [if_neg (by decide), rgreat_eq a _ ha (by omega) (by omega), bind_s, if_pos (by simpa using h)]
    rfl
end Go.Proofs.YtdbhednhhmbooaaDoor.Pure
