/- The plain part of the law. -/
import Derived.Test.YtdbhednhhmbooaaMNatSums0
import Derived.Test.YtdbhednhhmbooaaMNatSums1
import Derived.Test.YtdbhednhhmbooaaMNatSums2
import Derived.Test.YtdbhednhhmbooaaMNatSums3
import Derived.Test.YtdbhednhhmbooaaMNatSums4
import Derived.Test.YtdbhednhhmbooaaMNatSums5
import Derived.Test.YtdbhednhhmbooaaMNatSums6
import Derived.Test.YtdbhednhhmbooaaMNatSums7
namespace Go.Proofs.Ytdbhednhhmbooaa.Nm
set_option linter.unusedVariables false

/-- The number of a list of words, the lowest word first. -/
def val : List Int → Nat
  | [] => 0
  | w :: l => w.toNat + 18446744073709551616 * val l
/-- All are words of 64 bits. -/
def Ws (l : List Int) : Prop := ∀ x ∈ l, 0 ≤ x ∧ x < 18446744073709551616
/-- No word 0 at the end. -/
def Nrm : List Int → Prop
  | [] => True
  | [w] => w ≠ 0
  | _ :: l => Nrm l
/-- The words of a number, none 0 at the end. -/
def ofN (n : Nat) : List Int := if n = 0 then [] else ((n % 18446744073709551616 : Nat) : Int) :: ofN (n / 18446744073709551616)
termination_by n
decreasing_by omega

theorem ofN_zero : ofN 0 = [] := by unfold ofN; simp
theorem ofN_pos {n : Nat} (h : n ≠ 0) : ofN n = ((n % 18446744073709551616 : Nat) : Int) :: ofN (n / 18446744073709551616) := by
  rw [ofN]; simp [h]
theorem ws_nil : Ws [] := fun _ h => by cases h
theorem ws_cons {w : Int} {l : List Int} : Ws (w :: l) ↔ (0 ≤ w ∧ w < 18446744073709551616) ∧ Ws l := by
  unfold Ws; simp
theorem ws_append {a b : List Int} : Ws (a ++ b) ↔ Ws a ∧ Ws b := by
  unfold Ws; simp only [List.mem_append]
  constructor
  · intro h; exact ⟨fun x hx => h x (.inl hx), fun x hx => h x (.inr hx)⟩
  · rintro ⟨h, g⟩ x (hx | hx)
    · exact h x hx
    · exact g x hx
theorem ws_take {l : List Int} (h : Ws l) (n : Nat) : Ws (l.take n) := fun x hx => h x (List.mem_of_mem_take hx)
theorem ws_drop {l : List Int} (h : Ws l) (n : Nat) : Ws (l.drop n) := fun x hx => h x (List.mem_of_mem_drop hx)
theorem ws_set {l : List Int} (h : Ws l) (i : Nat) {w : Int} (h0 : 0 ≤ w) (h1 : w < 18446744073709551616) : Ws (l.set i w) := by
  intro x hx
  rcases List.mem_or_eq_of_mem_set hx with hx | rfl
  · exact h x hx
  · exact ⟨h0, h1⟩
theorem ws_replicate (n : Nat) : Ws (List.replicate n 0) := by
  intro x hx
  obtain ⟨_, rfl⟩ := List.mem_replicate.1 hx
  omega
theorem ws_get {l : List Int} (h : Ws l) (i : Nat) : 0 ≤ l.getD i 0 ∧ l.getD i 0 < 18446744073709551616 := by
  by_cases hi : i < l.length
  · rw [List.getD_eq_getElem?_getD, List.getElem?_eq_getElem hi]
    exact h _ (List.getElem_mem hi)
  · rw [List.getD_eq_getElem?_getD, List.getElem?_eq_none (by omega)]
    simp
theorem val_nil : val [] = 0 := rfl
theorem val_cons (w : Int) (l : List Int) : val (w :: l) = w.toNat + 18446744073709551616 * val l := rfl
theorem val_append (a b : List Int) : val (a ++ b) = val a + 18446744073709551616 ^ a.length * val b := by
  induction a with
  | nil => simp [val]
  | cons w a ih =>
    rw [List.cons_append, val_cons, val_cons, ih, List.length_cons, Nat.pow_succ, Nat.mul_add, ← Nat.add_assoc]
    congr 1
    rw [← Nat.mul_assoc, Nat.mul_comm 18446744073709551616 (18446744073709551616 ^ a.length), Nat.mul_assoc]
theorem val_replicate (n : Nat) : val (List.replicate n 0) = 0 := by
  induction n with
  | zero => rfl
  | succ n ih => rw [List.replicate_succ, val_cons, ih]; rfl
theorem val_lt {l : List Int} (h : Ws l) : val l < 18446744073709551616 ^ l.length := by
  induction l with
  | nil => simp [val]
  | cons w l ih =>
    obtain ⟨hw, hl⟩ := ws_cons.1 h
    have := ih hl
    rw [val_cons, List.length_cons, Nat.pow_succ]
    generalize 18446744073709551616 ^ l.length = p at *
    omega
theorem val_take_succ (l : List Int) (i : Nat) (hi : i < l.length) : val (l.take (i + 1)) = val (l.take i) + 18446744073709551616 ^ i * (l.getD i 0).toNat := by
  rw [List.take_succ_eq_append_getElem hi, val_append, List.length_take, Nat.min_eq_left (by omega), List.getD_eq_getElem?_getD, List.getElem?_eq_getElem hi]
  simp [val]
theorem val_take_ge (l : List Int) (i : Nat) (hi : l.length ≤ i) : val (l.take i) = val l := by rw [List.take_of_length_le hi]
theorem val_take_drop (l : List Int) (i : Nat) (hi : i ≤ l.length) : val l = val (l.take i) + 18446744073709551616 ^ i * val (l.drop i) := by
  conv => lhs; rw [← List.take_append_drop i l]
  rw [val_append, List.length_take, Nat.min_eq_left hi]
theorem val_set_take (l : List Int) (i : Nat) (w : Int) (hi : i < l.length) : val ((l.set i w).take (i + 1)) = val (l.take i) + 18446744073709551616 ^ i * w.toNat := by
  rw [val_take_succ _ _ (by rw [List.length_set]; exact hi), List.take_set_of_le (Nat.le_refl i)]
  simp [hi]
theorem getD_set_ne (l : List Int) (i j : Nat) (w : Int) (h : i ≠ j) : (l.set i w).getD j 0 = l.getD j 0 := by
  simp [List.getD_eq_getElem?_getD, List.getElem?_set_ne h]
theorem getD_set_eq (l : List Int) (i : Nat) (w : Int) (h : i < l.length) : (l.set i w).getD i 0 = w := by
  simp [List.getD_eq_getElem?_getD, h]
theorem getD_ge (l : List Int) (i : Nat) (h : l.length ≤ i) : l.getD i 0 = 0 := by
  rw [List.getD_eq_getElem?_getD, List.getElem?_eq_none h]; rfl
theorem take_succ_getD (l : List Int) (i : Nat) : val (l.take (i + 1)) = val (l.take i) + 18446744073709551616 ^ i * (l.getD i 0).toNat := by
  by_cases h : i < l.length
  · exact val_take_succ l i h
  · rw [getD_ge _ _ (by omega), val_take_ge _ _ (by omega), val_take_ge _ _ (by omega)]; simp

theorem val_ofN (n : Nat) : val (ofN n) = n := by
  induction n using Nat.strongRecOn with
  | _ n ih =>
    by_cases h : n = 0
    · subst h; rw [ofN_zero]; rfl
    · rw [ofN_pos h, val_cons, ih _ (by omega)]; simp only [Int.toNat_natCast]; omega
theorem ws_ofN (n : Nat) : Ws (ofN n) := by
  induction n using Nat.strongRecOn with
  | _ n ih =>
    by_cases h : n = 0
    · subst h; rw [ofN_zero]; exact ws_nil
    · rw [ofN_pos h]; exact ws_cons.2 ⟨by omega, ih _ (by omega)⟩
theorem nrm_ofN (n : Nat) : Nrm (ofN n) := by
  induction n using Nat.strongRecOn with
  | _ n ih =>
    by_cases h : n = 0
    · subst h; rw [ofN_zero]; trivial
    · rw [ofN_pos h]
      by_cases g : n / 18446744073709551616 = 0
      · rw [g, ofN_zero]; show ((n % 18446744073709551616 : Nat) : Int) ≠ 0; omega
      · have := ih (n / 18446744073709551616) (by omega)
        rw [ofN_pos g] at this ⊢
        exact this
theorem nrm_pos {w : Int} {l : List Int} (hw : Ws (w :: l)) (hn : Nrm (w :: l)) : val (w :: l) ≠ 0 := by
  induction l generalizing w with
  | nil =>
    have := (ws_cons.1 hw).1
    have hn' : w ≠ 0 := hn
    rw [val_cons, val_nil]; omega
  | cons v l ih =>
    have h2 : Nrm (v :: l) := hn
    have := ih (ws_cons.1 hw).2 h2
    rw [val_cons]; omega
theorem eq_ofN {l : List Int} (hw : Ws l) (hn : Nrm l) : l = ofN (val l) := by
  induction l with
  | nil => rw [val_nil, ofN_zero]
  | cons w l ih =>
    have h0 := nrm_pos hw hn
    obtain ⟨h1, h2⟩ := ws_cons.1 hw
    rw [ofN_pos h0]
    have hl : Nrm l := by
      cases l with
      | nil => trivial
      | cons v l => exact hn
    have e1 : ((val (w :: l) % 18446744073709551616 : Nat) : Int) = w := by rw [val_cons]; omega
    have e2 : val (w :: l) / 18446744073709551616 = val l := by rw [val_cons]; omega
    rw [e1, e2, ← ih h2 hl]
theorem ofN_len (n m : Nat) : (ofN n).length ≤ m ↔ n < 18446744073709551616 ^ m := by
  induction m generalizing n with
  | zero =>
    by_cases h : n = 0
    · subst h; rw [ofN_zero]; simp
    · rw [ofN_pos h]; simp; omega
  | succ m ih =>
    by_cases h : n = 0
    · subst h; rw [ofN_zero]; simp; exact Nat.pow_pos (by decide)
    · rw [ofN_pos h, List.length_cons, Nat.pow_succ]
      have := ih (n / 18446744073709551616)
      rw [Nat.div_lt_iff_lt_mul (by decide)] at this
      omega
theorem nrm_of_last {l : List Int} {w : Int} (h : w ≠ 0) : Nrm (l ++ [w]) := by
  induction l with
  | nil => exact h
  | cons v l ih =>
    cases l with
    | nil => exact h
    | cons u l => exact ih
theorem val_zero_all {l : List Int} (hw : Ws l) (h : val l = 0) : ∀ i, l.getD i 0 = 0 := by
  induction l with
  | nil => intro i; simp
  | cons w l ih =>
    obtain ⟨h1, h2⟩ := ws_cons.1 hw
    rw [val_cons] at h
    intro i
    cases i with
    | zero => simp; omega
    | succ i => rw [List.getD_cons_succ]; exact ih h2 (by omega) i
/-- Which of two numbers is the greater one, as a sign. -/
def cmpI (a b : Nat) : Int := if a < b then -1 else if a = b then 0 else 1
theorem pow_pos (n : Nat) : 0 < 18446744073709551616 ^ n := Nat.pow_pos (by decide)
theorem lex_lt {p a b x y : Nat} (ha : a < p) (h : x < y) : a + p * x < b + p * y := by
  have : p * (x + 1) ≤ p * y := Nat.mul_le_mul_left p h
  rw [Nat.mul_add] at this
  omega
theorem cmpI_top {p a b x y : Nat} (ha : a < p) (hb : b < p) : cmpI (a + p * x) (b + p * y) = if x < y then -1 else if x > y then 1 else cmpI a b := by
  unfold cmpI
  by_cases h : x < y
  · have := lex_lt (b := b) ha h
    rw [if_pos this, if_pos h]
  · rw [if_neg h]
    by_cases g : x > y
    · have := lex_lt (b := a) hb g
      rw [if_neg (by omega), if_neg (by omega), if_pos g]
    · have : x = y := by omega
      subst this
      rw [if_neg g]
      by_cases c : a < b
      · rw [if_pos c, if_pos (by omega)]
      · rw [if_neg c, if_neg (by omega)]
        by_cases d : a = b
        · rw [if_pos d, if_pos (by omega)]
        · rw [if_neg d, if_neg (by omega)]
theorem cmpI_len {a b : Nat} (h : (ofN a).length < (ofN b).length) : a < b := by
  have h1 := (ofN_len a (ofN a).length).1 (Nat.le_refl _)
  have h2 : ¬ b < 18446744073709551616 ^ (ofN a).length := fun g => by
    have := (ofN_len b (ofN a).length).2 g
    omega
  omega
/-- What is too great. -/
def big : Nat := 18446744073709551616 ^ 1024
theorem ofN_big (v : Nat) : (ofN v).length ≤ 1024 ↔ v < big := by unfold big; exact ofN_len v 1024
end Go.Proofs.Ytdbhednhhmbooaa.Nm

namespace Go.Proofs.Ytdbhednhhmbooaa.Nf
open Go.RowKit Go.Proofs.Ytdbhednhhmbooaa.PAll Go.Proofs.YtdbhednhhmbooaaW.PrintWords Go.Proofs.YtdbhednhhmbooaaW.PrintLast Go.Proofs.YtdbhednhhmbooaaW.PrintMore Go.Proofs.Ytdbhednhhmbooaa.Nm
set_option linter.unusedVariables false
set_option linter.unusedSimpArgs false

theorem wrapU {x : Int} (h0 : 0 ≤ x) (h1 : x < 18446744073709551616) : IntKind.u64.wrap x = x := by
  rw [IntKind.wrap_u64]; omega
theorem wrapS {x : Int} (h0 : -9223372036854775808 ≤ x) (h1 : x < 9223372036854775808) : wrap64 x = x := by
  unfold wrap64; omega
theorem rd_nat (l : List Int) (j : Nat) : rd l (j : Int) = l.getD j 0 := by simp [rd]
theorem bind_s {α β : Type} (a : α) (f : α → Option β) : (some a).bind f = f a := by simp

theorem norm_eq (n : Nat) : ∀ (l : List Int) (k : Nat), l.length = n → Ws l → n < 4611686018427387904 → n < k → nat_norm.f k l = some (ofN (val l)) := by
  unfold nat_norm.f
  induction n with
  | zero =>
    intro l k hl hw hn hk
    obtain ⟨k, rfl⟩ : ∃ m, k = m + 1 := ⟨k - 1, by omega⟩
    obtain rfl := List.eq_nil_of_length_eq_zero hl
    simp [nat_norm.l0, val, ofN_zero]
  | succ n ih =>
    intro l k hl hw hn hk
    obtain ⟨k, rfl⟩ : ∃ m, k = m + 1 := ⟨k - 1, by omega⟩
    simp only [nat_norm.l0]
    have e : wrap64 ((l.length : Int) - 1) = (n : Int) := by rw [wrapS (by omega) (by omega)]; omega
    rw [e, if_pos (by omega), if_pos (by omega), if_pos (by omega), rd_nat]
    have hv := val_take_succ l n (by omega)
    rw [val_take_ge l (n + 1) (by omega)] at hv
    by_cases h : l.getD n 0 = 0
    · rw [if_pos h, if_pos (by omega), Int.toNat_natCast, ih (l.take n) k (by rw [List.length_take]; omega) (ws_take hw n) (by omega) (by omega)]
      rw [h] at hv
      simp at hv; rw [hv]
    · rw [if_neg h]
      congr 1
      refine eq_ofN hw ?_
      have hs : l = l.take n ++ [l.getD n 0] := by
        have := List.take_succ_eq_append_getElem (l := l) (i := n) (by omega)
        rw [List.take_of_length_le (by omega)] at this
        rw [List.getD_eq_getElem?_getD, List.getElem?_eq_getElem (by omega)]
        exact this
      rw [hs]; exact nrm_of_last h

theorem great_eq (l : List Int) : nat_number_great.f l = some (decide (1024 < l.length)) := by
  unfold nat_number_great.f; congr 1; rw [Bool.eq_iff_iff]; simp; omega
theorem great_ofN (v : Nat) : nat_number_great.f (ofN v) = some (decide (¬ v < big)) := by
  have e : (1024 < (ofN v).length) ↔ ¬ v < big := by rw [← ofN_big]; omega
  rw [great_eq, decide_eq_decide.2 e]
theorem one_eq (l : List Int) (k : Nat) (hw : Ws l) (hn : l.length < 4611686018427387904) (hk : l.length < k) :
    nat_one.f k l = some (if val l < big then (ofN (val l), 0) else ([], 3)) := by
  unfold nat_one.f; rw [norm_eq _ l k rfl hw hn hk]; simp only [bind_s]; rw [great_ofN]; simp only [bind_s]
  by_cases h : val l < big <;> simp [h]
theorem both_eq (a b : List Int) (k : Nat) (ha : Ws a) (hb : Ws b) (na : a.length < 4611686018427387904) (nb : b.length < 4611686018427387904) (hk : a.length < k) (hk2 : b.length < k) :
    nat_both.f k a b = some (if val a < big ∧ val b < big then (ofN (val a), ofN (val b), 0) else ([], [], 3)) := by
  unfold nat_both.f; rw [norm_eq _ a k rfl ha na hk, norm_eq _ b k rfl hb nb hk2]; simp only [bind_s]; rw [great_ofN, great_ofN]; simp only [bind_s]
  by_cases h : val a < big <;> by_cases g : val b < big <;> simp [h, g]
theorem own_eq (l : List Int) (h : l.length < 17592186044416) : nat_number_own.f l = some l := by
  unfold nat_number_own.f; rw [if_pos (by simpa using h)]; rfl
theorem answer_eq (v : Nat) : nat_answer.f (ofN v) = some (if v < big then (ofN v, 0) else ([], 3)) := by
  unfold nat_answer.f; rw [great_ofN]; simp only [bind_s]
  by_cases h : v < big
  · have := (ofN_big v).2 h
    rw [own_eq _ (by omega)]; simp [h]
  · simp [h]

theorem cmp_loop (x y : List Int) (hx : Ws x) (hy : Ws y) (e : x.length = y.length) (hn : x.length < 4611686018427387904) (j : Nat) : ∀ (k : Nat), j ≤ x.length → j < k →
    nat_number_cmp.l0 k x y ((j : Int) - 1) = some (cmpI (val (x.take j)) (val (y.take j))) := by
  induction j with
  | zero =>
    intro k hj hk
    obtain ⟨k, rfl⟩ : ∃ m, k = m + 1 := ⟨k - 1, by omega⟩
    simp only [nat_number_cmp.l0]; rw [if_neg (by omega)]; simp [val, cmpI]
  | succ j ih =>
    intro k hj hk
    obtain ⟨k, rfl⟩ : ∃ m, k = m + 1 := ⟨k - 1, by omega⟩
    have e1 : ((j + 1 : Nat) : Int) - 1 = (j : Int) := by omega
    rw [e1]
    simp only [nat_number_cmp.l0]
    rw [if_pos (by omega), if_pos (by omega), if_pos (by omega), if_pos (by omega), rd_nat, rd_nat, wrapS (by omega) (by omega), ih k (by omega) (by omega)]
    rw [val_take_succ x j (by omega), val_take_succ y j (by omega)]
    have a := val_lt (ws_take hx j); have b := val_lt (ws_take hy j)
    rw [List.length_take, Nat.min_eq_left (by omega)] at a b
    rw [cmpI_top a b]
    have p := ws_get hx j; have q := ws_get hy j
    by_cases h : x.getD j 0 < y.getD j 0
    · rw [if_pos h, if_pos (by omega)]
    · rw [if_neg h, if_neg (c := (x.getD j 0).toNat < (y.getD j 0).toNat) (by omega)]
      by_cases g : x.getD j 0 > y.getD j 0
      · rw [if_pos g, if_pos (by omega)]
      · rw [if_neg g, if_neg (by omega)]
theorem cmp_eq (a b : Nat) (k : Nat) (na : (ofN a).length < 4611686018427387904) (hk : (ofN a).length < k) : nat_number_cmp.f k (ofN a) (ofN b) = some (cmpI a b) := by
  unfold nat_number_cmp.f
  by_cases e : (ofN a).length = (ofN b).length
  · rw [if_pos (by omega), wrapS (by omega) (by omega), cmp_loop _ _ (ws_ofN a) (ws_ofN b) e na _ k (Nat.le_refl _) hk, val_take_ge _ _ (Nat.le_refl _), val_take_ge _ _ (by omega), val_ofN, val_ofN]
  · rw [if_neg (by omega)]
    by_cases h : (ofN a).length < (ofN b).length
    · rw [if_pos (by omega)]; have := cmpI_len h; unfold cmpI; rw [if_pos this]
    · rw [if_neg (by omega)]; have := cmpI_len (a := b) (b := a) (by omega); unfold cmpI; rw [if_neg (by omega), if_neg (by omega)]

theorem a64s (x y c : Int) : add64s x y c = (((x.toNat + y.toNat + c.toNat) % 18446744073709551616 : Nat) : Int) := rfl
theorem a64s_lo (x y c : Int) : 0 ≤ add64s x y c := by rw [a64s]; omega
theorem a64s_hi (x y c : Int) : add64s x y c < 18446744073709551616 := by rw [a64s]; omega
theorem a64c (x y c : Int) : add64c x y c = (((x.toNat + y.toNat + c.toNat) / 18446744073709551616 : Nat) : Int) := rfl
theorem a64c_bd {x y : Int} {c : Nat} (hx : x < 18446744073709551616) (hy : y < 18446744073709551616) (hc : c ≤ 1) : ∃ d : Nat, d ≤ 1 ∧ add64c x y c = d := ⟨_, by simp only [Int.toNat_natCast]; omega, rfl⟩
theorem pow_step {P v w s c d x y : Nat} (h : s + 18446744073709551616 * d = x + y + c) : v + P * c + 0 + (P * x + P * y) = v + P * s + P * 18446744073709551616 * d := by
  have : P * (s + 18446744073709551616 * d) = P * (x + y + c) := by rw [h]
  rw [Nat.mul_add, Nat.mul_add, Nat.mul_add, ← Nat.mul_assoc] at this
  omega
theorem add_step {P va vb vo c x y s d : Nat} (h : s + 18446744073709551616 * d = x + y + c) (e : vo + P * c = va + vb) : vo + P * s + P * 18446744073709551616 * d = va + P * x + (vb + P * y) := by
  have := pow_step (P := P) (v := vo) (w := 0) h
  omega

/-- The loop of a sum: from round j on. -/
theorem add_loop1 (a b : List Int) (ha : Ws a) (hb : Ws b) (na : a.length < 4611686018427387900) (nb : b.length ≤ a.length) (r : Nat) : ∀ (j : Nat) (k : Nat) (o : List Int) (c : Nat), a.length - j = r → j ≤ a.length → r + a.length + 2 < k → o.length = a.length + 1 → Ws o → c ≤ 1 →
    val (o.take j) + 18446744073709551616 ^ j * c = val (a.take j) + val (b.take j) →
    nat_number_add.l100 k a b o c a a.length j = some (ofN (val a + val b)) := by
  induction r with
  | zero =>
    intro j k o c hr hj hk ho hw hc hv
    obtain ⟨k, rfl⟩ : ∃ m, k = m + 1 := ⟨k - 1, by omega⟩
    obtain rfl : j = a.length := by omega
    simp only [nat_number_add.l100]
    rw [if_neg (by omega), if_pos (by omega), if_pos (by omega), Int.toNat_natCast]
    rw [norm_eq _ _ k rfl (ws_set hw _ (by omega) (by omega)) (by rw [List.length_set]; omega) (by rw [List.length_set]; omega), bind_s]
    have e := val_set_take o a.length (c : Int) (by omega)
    rw [val_take_ge _ (a.length + 1) (by rw [List.length_set]; omega), Int.toNat_natCast] at e
    rw [val_take_ge a _ (Nat.le_refl _), val_take_ge b _ nb] at hv
    rw [e, hv]
  | succ r ih =>
    intro j k o c hr hj hk ho hw hc hv
    obtain ⟨k, rfl⟩ : ∃ m, k = m + 1 := ⟨k - 1, by omega⟩
    simp only [nat_number_add.l100]
    have i5 : ¬ (j : Int) < (b.length : Int) → 0 = b.getD j 0 := fun h => (getD_ge _ _ (by omega)).symm
    have i4 : j < o.length := by omega
    have i1 : a.length - (j + 1) = r := by omega
    have i2 : j + 1 ≤ a.length := by omega
    have i3 : r + a.length + 2 < k := by omega
    have pa := ws_get ha j; have pb := ws_get hb j
    rw [if_pos (by omega), if_pos (by omega), if_pos (by omega)]
    simp only [rd_nat]
    rw [if_pos (c := (c : Int) ≤ 1) (by omega), if_pos (c := (c : Int) ≤ 1) (by omega)]
    simp only [if_pos (show (j : Int) < (o.length : Int) by omega), Int.toNat_natCast]
    have wj : wrap64 ((j : Int) + 1) = ((j + 1 : Nat) : Int) := by rw [wrapS (by omega) (by omega)]; omega
    rw [wj]
    have key : ∀ y : Int, 0 ≤ y → y < 18446744073709551616 → y = b.getD j 0 →
        nat_number_add.l100 k a b (o.set j (add64s (a.getD j 0) y c)) (add64c (a.getD j 0) y c) a a.length ((j + 1 : Nat) : Int) = some (ofN (val a + val b)) := by
      intro y y0 y1 hy
      obtain ⟨d, hd, ed⟩ := a64c_bd (x := a.getD j 0) (y := y) (c := c) pa.2 y1 hc
      rw [ed]
      have hs : (add64s (a.getD j 0) y c).toNat + 18446744073709551616 * d = (a.getD j 0).toNat + y.toNat + c := by
        rw [a64s]; rw [a64c] at ed
        simp only [Int.toNat_natCast] at ed ⊢
        omega
      refine ih (j + 1) k _ d i1 i2 i3 (by rw [List.length_set]; exact ho) (ws_set hw _ (a64s_lo _ _ _) (a64s_hi _ _ _)) hd ?_
      rw [val_set_take o j _ i4, take_succ_getD a, take_succ_getD b, ← hy, Nat.pow_succ]
      exact add_step hs hv
    by_cases h : (j : Int) < (b.length : Int)
    · rw [if_pos h]; exact key _ pb.1 pb.2 rfl
    · rw [if_neg h]; exact key 0 (Int.le_refl 0) (by decide) (i5 h)
end Go.Proofs.Ytdbhednhhmbooaa.Nf

namespace Go.Proofs.Ytdbhednhhmbooaa.Nf
open Go.RowKit Go.Proofs.Ytdbhednhhmbooaa.PAll Go.Proofs.YtdbhednhhmbooaaW.PrintWords Go.Proofs.YtdbhednhhmbooaaW.PrintLast Go.Proofs.YtdbhednhhmbooaaW.PrintMore Go.Proofs.Ytdbhednhhmbooaa.Nm
set_option linter.unusedVariables false
set_option linter.unusedSimpArgs false

theorem ws_wf {l : List Int} (h : ∀ x ∈ l, (Lit.int .u64 x).wf = true) : Ws l := by
  intro x hx
  have := h x hx
  simp [Lit.wf, IntKind.min, IntKind.max, IntKind.bits, IntKind.signed] at this
  omega
theorem word_eq (l : List Int) (i : Nat) : ulpref03_word.f l (i : Int) = some (l.getD i 0) := by
  unfold ulpref03_word.f
  by_cases h : i < l.length
  · rw [if_pos (by omega), if_pos (by omega), rd_nat]
  · rw [if_neg (by omega), getD_ge _ _ (by omega)]
theorem ofN_take {l : List Int} (hw : Ws l) {j : Nat} (hj : j < l.length) (h : l.getD j 0 ≠ 0) : l.take (j + 1) = ofN (val (l.take (j + 1))) := by
  refine eq_ofN (ws_take hw _) ?_
  rw [List.take_succ_eq_append_getElem hj]
  refine nrm_of_last ?_
  rwa [List.getD_eq_getElem?_getD, List.getElem?_eq_getElem hj] at h
theorem rnorm_loop (l : List Int) (hw : Ws l) (hn : l.length < 17592186044416) (n : Nat) : ∀ k, n ≤ l.length → n < k → ulpref03_Norm.l0 k l n = some (ofN (val (l.take n))) := by
  induction n with
  | zero =>
    intro k hj hk
    obtain ⟨k, rfl⟩ : ∃ m, k = m + 1 := ⟨k - 1, by omega⟩
    simp only [ulpref03_Norm.l0]
    rw [if_neg (by omega), if_pos (by omega), if_pos (by omega), if_pos (by simp)]
    simp [val, ofN_zero]
  | succ n ih =>
    intro k hj hk
    obtain ⟨k, rfl⟩ : ∃ m, k = m + 1 := ⟨k - 1, by omega⟩
    simp only [ulpref03_Norm.l0]
    have e : wrap64 (((n + 1 : Nat) : Int) - 1) = (n : Int) := by rw [wrapS (by omega) (by omega)]; omega
    rw [e, if_pos (by omega), if_pos (by omega), if_pos (by omega), rd_nat]
    by_cases h : l.getD n 0 = 0
    · rw [if_pos h, ih k (by omega) (by omega), val_take_succ l n (by omega), h]; simp
    · rw [if_neg h, if_pos (by omega), if_pos (by omega), Int.toNat_natCast, if_pos (by rw [List.length_take]; simp; omega), List.nil_append, ← ofN_take hw (by omega) h]
theorem rnorm_eq (l : List Int) (k : Nat) (hw : Ws l) (hn : l.length < 17592186044416) (hk : l.length < k) : ulpref03_Norm.f k l = some (ofN (val l)) := by
  unfold ulpref03_Norm.f
  rw [rnorm_loop l hw hn _ k (Nat.le_refl _) hk, val_take_ge _ _ (Nat.le_refl _)]
theorem val_take_lt {l : List Int} (h : Ws l) (j : Nat) : val (l.take j) < 18446744073709551616 ^ j := by
  have a := val_lt (ws_take h j)
  refine Nat.lt_of_lt_of_le a (Nat.pow_le_pow_right (by decide) ?_)
  rw [List.length_take]; omega
theorem mx_nat (a b : Nat) : mx (a : Int) (b : Int) = ((max a b : Nat) : Int) := by unfold mx; split <;> omega
theorem wrap_succ {j : Nat} (h : j < 4611686018427387904) : wrap64 ((j : Int) + 1) = ((j + 1 : Nat) : Int) := by rw [wrapS (by omega) (by omega)]; omega
theorem val_snoc (o : List Int) (w : Int) : val (o ++ [w]) = val o + 18446744073709551616 ^ o.length * w.toNat := by rw [val_append]; simp [val]

theorem radd_loop (a b : List Int) (ha : Ws a) (hb : Ws b) (na : a.length < 17592186044000) (nb : b.length < 17592186044000) (r : Nat) : ∀ (j k : Nat) (o : List Int) (c : Nat), max a.length b.length - j = r → j ≤ max a.length b.length → r + max a.length b.length + 3 < k → o.length = j → Ws o → c ≤ 1 →
    val o + 18446744073709551616 ^ j * c = val (a.take j) + val (b.take j) →
    ulpref03_Add.l0 k a b o c j = some (ofN (val a + val b)) := by
  induction r with
  | zero =>
    intro j k o c hr hj hk ho hw hc hv
    obtain ⟨k, rfl⟩ : ∃ m, k = m + 1 := ⟨k - 1, by omega⟩
    obtain rfl : j = max a.length b.length := by omega
    simp only [ulpref03_Add.l0, mx_nat]
    rw [if_neg (by omega), if_pos (by omega)]
    rw [rnorm_eq _ k (ws_append.2 ⟨hw, ws_cons.2 ⟨by omega, ws_nil⟩⟩) (by simp; omega) (by simp; omega), bind_s]
    rw [val_snoc, ho, Int.toNat_natCast, hv, val_take_ge _ _ (by omega), val_take_ge _ _ (by omega)]
  | succ r ih =>
    intro j k o c hr hj hk ho hw hc hv
    obtain ⟨k, rfl⟩ : ∃ m, k = m + 1 := ⟨k - 1, by omega⟩
    simp only [ulpref03_Add.l0, mx_nat]
    have i1 : max a.length b.length - (j + 1) = r := by omega
    have i2 : j + 1 ≤ max a.length b.length := by omega
    have i3 : r + max a.length b.length + 3 < k := by omega
    have pa := ws_get ha j; have pb := ws_get hb j
    rw [if_pos (by omega), word_eq, word_eq, bind_s, bind_s, wrap_succ (by omega)]
    have key : ∀ (s : Int) (d : Nat), 0 ≤ s → s < 18446744073709551616 → d ≤ 1 → s.toNat + 18446744073709551616 * d = (a.getD j 0).toNat + (b.getD j 0).toNat + c →
        ulpref03_Add.l0 k a b (o ++ [s]) d ((j + 1 : Nat) : Int) = some (ofN (val a + val b)) := by
      intro s d s0 s1 hd hs
      refine ih (j + 1) k _ d i1 i2 i3 (by simp [ho]) (ws_append.2 ⟨hw, ws_cons.2 ⟨⟨s0, s1⟩, ws_nil⟩⟩) hd ?_
      rw [val_snoc, ho, take_succ_getD a, take_succ_getD b, Nat.pow_succ]
      exact add_step hs hv
    generalize es : IntKind.u64.wrap (IntKind.u64.wrap (a.getD j 0 + b.getD j 0) + (c : Int)) = s
    have es' : s = (a.getD j 0 + b.getD j 0 + c) % 18446744073709551616 := by rw [← es, IntKind.wrap_u64, IntKind.wrap_u64]; omega
    have k0 := key s 0 (by omega) (by omega) (by omega)
    have k1 := key s 1 (by omega) (by omega) (by omega)
    have ho' : o.length < 17592186044416 := by omega
    by_cases h1 : s < a.getD j 0
    · rw [if_pos h1, if_pos ho']; exact k1 (by omega)
    · rw [if_neg h1]
      by_cases h2 : s = a.getD j 0
      · rw [if_pos h2]
        by_cases h3 : (c : Int) = 1
        · rw [if_pos h3]
          by_cases h4 : b.getD j 0 > 0
          · rw [if_pos h4, if_pos ho']; exact k1 (by omega)
          · rw [if_neg h4, if_pos ho']; exact k0 (by omega)
        · rw [if_neg h3, if_pos ho']; exact k0 (by omega)
      · rw [if_neg h2, if_pos ho']; exact k0 (by omega)
theorem radd_eq (a b : List Int) (k : Nat) (ha : Ws a) (hb : Ws b) (na : a.length < 17592186044000) (nb : b.length < 17592186044000) (hk : 2 * (a.length + b.length) + 3 < k) : ulpref03_Add.f k a b = some (ofN (val a + val b)) := by
  unfold ulpref03_Add.f
  exact radd_loop a b ha hb na nb _ 0 k [] 0 rfl (by omega) (by omega) rfl ws_nil (by omega) (by simp [val])

theorem rsub_loop (a b : List Int) (ha : Ws a) (hb : Ws b) (na : a.length < 17592186044000) (nb : b.length < 17592186044000) (hle : val b ≤ val a) (r : Nat) : ∀ (j k : Nat) (o : List Int) (c : Nat), max a.length b.length - j = r → j ≤ max a.length b.length → r + max a.length b.length + 3 < k → o.length = j → Ws o → c ≤ 1 →
    val (a.take j) + 18446744073709551616 ^ j * c = val o + val (b.take j) →
    ulpref03_Sub.l0 k a b o c j = some (ofN (val a - val b)) := by
  induction r with
  | zero =>
    intro j k o c hr hj hk ho hw hc hv
    obtain ⟨k, rfl⟩ : ∃ m, k = m + 1 := ⟨k - 1, by omega⟩
    obtain rfl : j = max a.length b.length := by omega
    simp only [ulpref03_Sub.l0, mx_nat]
    rw [if_neg (by omega), rnorm_eq _ k hw (by omega) (by omega), bind_s]
    have := val_lt hw
    rw [ho] at this
    rw [val_take_ge _ _ (by omega), val_take_ge _ _ (by omega)] at hv
    generalize 18446744073709551616 ^ max a.length b.length = p at *
    have : c = 0 := by
      rcases Nat.lt_or_ge c 1 with h | h
      · omega
      · have : c = 1 := by omega
        subst this; omega
    subst this
    rw [Nat.mul_zero] at hv
    congr 2; omega
  | succ r ih =>
    intro j k o c hr hj hk ho hw hc hv
    obtain ⟨k, rfl⟩ : ∃ m, k = m + 1 := ⟨k - 1, by omega⟩
    simp only [ulpref03_Sub.l0, mx_nat]
    have i1 : max a.length b.length - (j + 1) = r := by omega
    have i2 : j + 1 ≤ max a.length b.length := by omega
    have i3 : r + max a.length b.length + 3 < k := by omega
    have pa := ws_get ha j; have pb := ws_get hb j
    rw [if_pos (by omega), word_eq, word_eq, bind_s, bind_s, wrap_succ (by omega)]
    have key : ∀ (s : Int) (d : Nat), 0 ≤ s → s < 18446744073709551616 → d ≤ 1 → (a.getD j 0).toNat + 18446744073709551616 * d = s.toNat + (b.getD j 0).toNat + c →
        ulpref03_Sub.l0 k a b (o ++ [s]) d ((j + 1 : Nat) : Int) = some (ofN (val a - val b)) := by
      intro s d s0 s1 hd hs
      refine ih (j + 1) k _ d i1 i2 i3 (by simp [ho]) (ws_append.2 ⟨hw, ws_cons.2 ⟨⟨s0, s1⟩, ws_nil⟩⟩) hd ?_
      rw [val_snoc, ho, take_succ_getD a, take_succ_getD b, Nat.pow_succ]
      exact add_step hs hv
    generalize es : IntKind.u64.wrap (IntKind.u64.wrap (a.getD j 0 - b.getD j 0) - (c : Int)) = s
    have es' : s = (a.getD j 0 - b.getD j 0 - c) % 18446744073709551616 := by rw [← es, IntKind.wrap_u64, IntKind.wrap_u64]; omega
    have k0 := key s 0 (by omega) (by omega) (by omega)
    have k1 := key s 1 (by omega) (by omega) (by omega)
    have ho' : o.length < 17592186044416 := by omega
    by_cases h1 : a.getD j 0 < b.getD j 0
    · rw [if_pos h1, if_pos ho']; exact k1 (by omega)
    · rw [if_neg h1]
      by_cases h2 : a.getD j 0 = b.getD j 0
      · rw [if_pos h2]
        by_cases h3 : (c : Int) = 1
        · rw [if_pos h3, if_pos ho']; exact k1 (by omega)
        · rw [if_neg h3, if_pos ho']; exact k0 (by omega)
      · rw [if_neg h2, if_pos ho']; exact k0 (by omega)
theorem rsub_eq (a b : List Int) (k : Nat) (ha : Ws a) (hb : Ws b) (na : a.length < 17592186044000) (nb : b.length < 17592186044000) (hle : val b ≤ val a) (hk : 2 * (a.length + b.length) + 3 < k) : ulpref03_Sub.f k a b = some (ofN (val a - val b)) := by
  unfold ulpref03_Sub.f
  exact rsub_loop a b ha hb na nb hle _ 0 k [] 0 rfl (by omega) (by omega) rfl ws_nil (by omega) (by simp [val])

theorem rcmp_loop (a b : List Int) (ha : Ws a) (hb : Ws b) (j : Nat) : ∀ (k : Nat), j < 4611686018427387904 → j < k → ulpref03_Cmp.l0 k a b ((j : Int) - 1) = some (cmpI (val (a.take j)) (val (b.take j))) := by
  induction j with
  | zero =>
    intro k hj hk
    obtain ⟨k, rfl⟩ : ∃ m, k = m + 1 := ⟨k - 1, by omega⟩
    simp only [ulpref03_Cmp.l0]; rw [if_neg (by omega)]; simp [val, cmpI]
  | succ j ih =>
    intro k hj hk
    obtain ⟨k, rfl⟩ : ∃ m, k = m + 1 := ⟨k - 1, by omega⟩
    have e1 : ((j + 1 : Nat) : Int) - 1 = (j : Int) := by omega
    rw [e1]
    simp only [ulpref03_Cmp.l0]
    rw [if_pos (by omega), word_eq, word_eq, bind_s, bind_s, wrapS (by omega) (by omega), ih k (by omega) (by omega), take_succ_getD, take_succ_getD, cmpI_top (val_take_lt ha j) (val_take_lt hb j)]
    have p := ws_get ha j; have q := ws_get hb j
    by_cases h : a.getD j 0 < b.getD j 0
    · rw [if_pos h, if_pos (by omega)]
    · rw [if_neg h, if_neg (c := (a.getD j 0).toNat < (b.getD j 0).toNat) (by omega)]
      by_cases g : a.getD j 0 > b.getD j 0
      · rw [if_pos g, if_pos (by omega)]
      · rw [if_neg g, if_neg (by omega)]
theorem rcmp_eq (a b : List Int) (k : Nat) (ha : Ws a) (hb : Ws b) (na : a.length < 4611686018427387904) (nb : b.length < 4611686018427387904) (hk : a.length + b.length < k) : ulpref03_Cmp.f k a b = some (cmpI (val a) (val b)) := by
  unfold ulpref03_Cmp.f
  rw [mx_nat, wrapS (by omega) (by omega), rcmp_loop a b ha hb _ k (by omega) (by omega), val_take_ge _ _ (by omega), val_take_ge _ _ (by omega)]

theorem rgreat_loop (l : List Int) (hw : Ws l) (hn : l.length < 4611686018427387904) (r : Nat) : ∀ (j k : Nat), l.length - j = r → j ≤ l.length → r < k →
    ulpref03_Great.l0 k ((ofN (val (l.take j))).length : Int) l l.length j = some (decide (1024 < (ofN (val l)).length)) := by
  induction r with
  | zero =>
    intro j k hr hj hk
    obtain ⟨k, rfl⟩ : ∃ m, k = m + 1 := ⟨k - 1, by omega⟩
    obtain rfl : j = l.length := by omega
    simp only [ulpref03_Great.l0]
    rw [if_neg (by omega), val_take_ge _ _ (Nat.le_refl _)]
    exact congrArg some (decide_eq_decide.2 (by omega))
  | succ r ih =>
    intro j k hr hj hk
    obtain ⟨k, rfl⟩ : ∃ m, k = m + 1 := ⟨k - 1, by omega⟩
    simp only [ulpref03_Great.l0]
    have := ih (j + 1) k (by omega) (by omega) (by omega)
    rw [if_pos (by omega), if_pos (by omega), if_pos (by omega), rd_nat, wrap_succ (by omega)]
    by_cases h : l.getD j 0 = 0
    · rw [if_pos h]
      rw [take_succ_getD, h] at this
      simpa using this
    · rw [if_neg h]
      rw [← ofN_take hw (by omega) h, List.length_take, Nat.min_eq_left (by omega)] at this
      exact this
theorem rgreat_eq (l : List Int) (k : Nat) (hw : Ws l) (hn : l.length < 4611686018427387904) (hk : l.length < k) : ulpref03_Great.f k l = some (decide (¬ val l < big)) := by
  unfold ulpref03_Great.f
  have := rgreat_loop l hw hn _ 0 k rfl (by omega) (by omega)
  have e : (1024 < (ofN (val l)).length) ↔ ¬ val l < big := by rw [← ofN_big]; omega
  have e0 : ((ofN (val (l.take 0))).length : Int) = 0 := by simp [val, ofN_zero]
  rw [e0] at this
  exact this.trans (congrArg some (decide_eq_decide.2 e))
theorem same_loop (l : List Int) (hn : l.length < 4611686018427387904) (r : Nat) : ∀ (j k : Nat), l.length - j = r → j ≤ l.length → r < k → ulpref03_Same.l0 k l l l.length j = some true := by
  induction r with
  | zero =>
    intro j k hr hj hk
    obtain ⟨k, rfl⟩ : ∃ m, k = m + 1 := ⟨k - 1, by omega⟩
    simp only [ulpref03_Same.l0]; rw [if_neg (by omega)]
  | succ r ih =>
    intro j k hr hj hk
    obtain ⟨k, rfl⟩ : ∃ m, k = m + 1 := ⟨k - 1, by omega⟩
    simp only [ulpref03_Same.l0]; rw [if_pos (by omega), if_pos (by omega), if_pos (by omega), if_pos (by omega), if_pos trivial, wrap_succ (by omega), ih (j + 1) k (by omega) (by omega) (by omega)]
theorem same_eq (l : List Int) (k : Nat) (hn : l.length < 4611686018427387904) (hk : l.length < k) : ulpref03_Same.f k l l = some true := by
  unfold ulpref03_Same.f
  rw [if_pos rfl]
  exact same_loop l hn _ 0 k rfl (by omega) (by omega)

theorem add_swap (k : Nat) : ∀ a b o c r n j, nat_number_add.l0 k a b o c r n j = nat_number_add.l100 k a b o c r n j := by
  induction k with
  | zero => intros; rfl
  | succ k ih => intro a b o c r n j; simp only [nat_number_add.l0, nat_number_add.l100, ih]
theorem add_eq (a b : List Int) (ha : Ws a) (hb : Ws b) (na : a.length < 35184372088000) (nb : b.length < 35184372088000) (k : Nat) (hk : 2 * (a.length + b.length) + 3 < k) : nat_number_add.f k a b = some (ofN (val a + val b)) := by
  have key : ∀ (a b : List Int), Ws a → Ws b → a.length < 35184372088000 → b.length ≤ a.length → 2 * (a.length + b.length) + 3 < k → nat_number_add.l100 k a b (List.replicate (wrap64 ((a.length : Int) + 1)).toNat 0) 0 a a.length 0 = some (ofN (val a + val b)) := by
    intro a b ha hb na nb hk
    rw [wrap_succ (by omega), Int.toNat_natCast]
    exact add_loop1 a b ha hb (by omega) nb _ 0 k _ 0 rfl (by omega) (by omega) (by simp) (ws_replicate _) (by omega) (by simp [val])
  unfold nat_number_add.f
  by_cases h : (a.length : Int) < (b.length : Int)
  · rw [if_pos h, if_pos (by rw [wrap_succ (by omega)]; omega), if_pos (by rw [wrap_succ (by omega)]; omega), add_swap, key b a hb ha nb (by omega) (by omega), Nat.add_comm]
  · rw [if_neg h, if_pos (by rw [wrap_succ (by omega)]; omega), if_pos (by rw [wrap_succ (by omega)]; omega), key a b ha hb na (by omega) (by omega)]

theorem s64s (x y c : Int) : sub64s x y c = (((x.toNat + 18446744073709551616 - y.toNat - c.toNat) % 18446744073709551616 : Nat) : Int) := rfl
theorem s64s_lo (x y c : Int) : 0 ≤ sub64s x y c := by rw [s64s]; omega
theorem s64s_hi (x y c : Int) : sub64s x y c < 18446744073709551616 := by rw [s64s]; omega
theorem s64c (x y c : Int) : sub64c x y c = if x.toNat < y.toNat + c.toNat then 1 else 0 := rfl
theorem sub_nat1 {m x y c : Nat} (hx : x < m) (hy : y < m) (hc : c ≤ 1) (h : x < y + c) : x + m * 1 = (x + m - y - c) % m + y + c := by
  rw [Nat.mod_eq_of_lt (by omega)]; omega
theorem sub_nat0 {m x y c : Nat} (hx : x < m) (hy : y < m) (hc : c ≤ 1) (h : ¬ x < y + c) : x + m * 0 = (x + m - y - c) % m + y + c := by
  have : x + m - y - c = (x - y - c) + m := by omega
  rw [this, Nat.add_mod_right, Nat.mod_eq_of_lt (by omega)]; omega
theorem s64s_nat (x y : Int) (c : Nat) : (sub64s x y c).toNat = (x.toNat + 18446744073709551616 - y.toNat - c) % 18446744073709551616 := by unfold sub64s; rw [Int.toNat_natCast, Int.toNat_natCast]
theorem s64c_nat (x y : Int) (c : Nat) : sub64c x y c = if x.toNat < y.toNat + c then 1 else 0 := by unfold sub64c; rw [Int.toNat_natCast]
theorem sub_word {x y : Int} {c : Nat} (x0 : 0 ≤ x) (x1 : x < 18446744073709551616) (y0 : 0 ≤ y) (y1 : y < 18446744073709551616) (hc : c ≤ 1) :
    ∃ d : Nat, d ≤ 1 ∧ sub64c x y c = d ∧ x.toNat + 18446744073709551616 * d = (sub64s x y c).toNat + y.toNat + c := by
  have hx : x.toNat < 18446744073709551616 := by omega
  have hy : y.toNat < 18446744073709551616 := by omega
  rw [s64s_nat, s64c_nat]
  by_cases h : x.toNat < y.toNat + c
  · exact ⟨1, Nat.le_refl 1, if_pos h, sub_nat1 hx hy hc h⟩
  · exact ⟨0, Nat.zero_le 1, if_neg h, sub_nat0 hx hy hc h⟩
theorem sub_loop (a b : List Int) (ha : Ws a) (hb : Ws b) (na : a.length < 4611686018427387904) (hle : val b ≤ val a) (hl : b.length ≤ a.length) (r : Nat) : ∀ (j : Nat) (k : Nat) (o : List Int) (c : Nat), a.length - j = r → j ≤ a.length → r + a.length + 2 < k → o.length = a.length → Ws o → c ≤ 1 →
    val (a.take j) + 18446744073709551616 ^ j * c = val (o.take j) + val (b.take j) →
    nat_number_sub.l0 k b o c a a.length j = some (ofN (val a - val b)) := by
  induction r with
  | zero =>
    intro j k o c hr hj hk ho hw hc hv
    obtain ⟨k, rfl⟩ : ∃ m, k = m + 1 := ⟨k - 1, by omega⟩
    obtain rfl : j = a.length := by omega
    simp only [nat_number_sub.l0]
    rw [if_neg (by omega), norm_eq _ _ k rfl hw (by omega) (by omega), bind_s]
    have := val_lt hw
    rw [ho] at this
    rw [val_take_ge _ _ (by omega), val_take_ge _ _ (by omega), val_take_ge _ _ (by omega)] at hv
    generalize 18446744073709551616 ^ a.length = p at *
    have : c = 0 := by
      rcases Nat.lt_or_ge c 1 with h | h
      · omega
      · have : c = 1 := by omega
        subst this; omega
    subst this
    rw [Nat.mul_zero] at hv
    congr 2; omega
  | succ r ih =>
    intro j k o c hr hj hk ho hw hc hv
    obtain ⟨k, rfl⟩ : ∃ m, k = m + 1 := ⟨k - 1, by omega⟩
    simp only [nat_number_sub.l0]
    have i5 : ¬ (j : Int) < (b.length : Int) → 0 = b.getD j 0 := fun h => (getD_ge _ _ (by omega)).symm
    have i4 : j < o.length := by omega
    have i1 : a.length - (j + 1) = r := by omega
    have i2 : j + 1 ≤ a.length := by omega
    have i3 : r + a.length + 2 < k := by omega
    have pa := ws_get ha j; have pb := ws_get hb j
    rw [if_pos (by omega), if_pos (by omega), if_pos (by omega)]
    simp only [rd_nat]
    rw [if_pos (c := (c : Int) ≤ 1) (by omega), if_pos (c := (c : Int) ≤ 1) (by omega)]
    simp only [if_pos (show (j : Int) < (o.length : Int) by omega), Int.toNat_natCast]
    rw [wrap_succ (by omega)]
    have key : ∀ y : Int, 0 ≤ y → y < 18446744073709551616 → y = b.getD j 0 →
        nat_number_sub.l0 k b (o.set j (sub64s (a.getD j 0) y c)) (sub64c (a.getD j 0) y c) a a.length ((j + 1 : Nat) : Int) = some (ofN (val a - val b)) := by
      intro y y0 y1 hy
      obtain ⟨d, hd, ed, hs⟩ := sub_word pa.1 pa.2 y0 y1 hc
      rw [ed]
      refine ih (j + 1) k _ d i1 i2 i3 (by rw [List.length_set]; exact ho) (ws_set hw _ (s64s_lo _ _ _) (s64s_hi _ _ _)) hd ?_
      rw [val_set_take o j _ i4, take_succ_getD a, take_succ_getD b, ← hy, Nat.pow_succ]
      exact add_step hs hv
    by_cases h : (j : Int) < (b.length : Int)
    · rw [if_pos h]; exact key _ pb.1 pb.2 rfl
    · rw [if_neg h]; exact key 0 (Int.le_refl 0) (by decide) (i5 h)
theorem ofN_len_le {a b : Nat} (h : b ≤ a) : (ofN b).length ≤ (ofN a).length := by
  rcases Nat.lt_or_ge (ofN a).length (ofN b).length with g | g
  · have := cmpI_len g; omega
  · exact g
theorem sub_eq (a b : Nat) (h : b ≤ a) (k : Nat) (na : (ofN a).length < 35184372088000) (hk : 2 * (ofN a).length + 3 < k) : nat_number_sub.f k (ofN a) (ofN b) = some (ofN (a - b)) := by
  unfold nat_number_sub.f
  rw [if_pos (by omega), if_pos (by rw [Int.toNat_natCast]; omega), Int.toNat_natCast]
  have := sub_loop (ofN a) (ofN b) (ws_ofN a) (ws_ofN b) (by omega) (by rw [val_ofN, val_ofN]; exact h) (ofN_len_le h) _ 0 k (List.replicate (ofN a).length 0) 0 rfl (by omega) (by omega) (by simp) (ws_replicate _) (by omega) (by simp [val])
  rw [val_ofN, val_ofN] at this
  exact this
theorem ofN_len_succ (n m : Nat) : (ofN n).length ≤ m + 1 ↔ n < 18446744073709551616 ^ m * 18446744073709551616 := by rw [ofN_len, Nat.pow_succ]
theorem big_add_aux {p m a b : Nat} (hp : p = 18446744073709551616 ^ m) (ha : a < p) (hb : b < p) : (ofN (a + b)).length ≤ m + 1 := by
  refine (ofN_len_succ (a + b) m).2 ?_
  rw [← hp]; omega
theorem big_def : big = 18446744073709551616 ^ 1024 := by unfold big; rfl
theorem big_add {a b : Nat} (ha : a < big) (hb : b < big) : (ofN (a + b)).length ≤ 1025 := big_add_aux big_def ha hb
theorem len_big {a : Nat} (ha : a < big) : (ofN a).length ≤ 1024 := (ofN_big a).2 ha

/-- The answers of the law's functions. -/
theorem Add_eq (a b : List Int) (k : Nat) (ha : Ws a) (hb : Ws b) (na : a.length < 4611686018427387904) (nb : b.length < 4611686018427387904) (hk : 2 * (a.length + b.length) + 10000 < k) :
    nat_Add.f k a b = some (if val a < big ∧ val b < big then (if val a + val b < big then (ofN (val a + val b), 0) else ([], 3)) else ([], 3)) := by
  unfold nat_Add.f
  rw [both_eq a b k ha hb na nb (by omega) (by omega), bind_s]
  by_cases h : val a < big ∧ val b < big
  · have h1 := len_big h.1; have h2 := len_big h.2
    rw [if_pos h, if_pos rfl, add_eq _ _ (ws_ofN _) (ws_ofN _) (by omega) (by omega) k (by omega), bind_s, val_ofN, val_ofN, answer_eq, bind_s, if_pos h]
  · rw [if_neg h, if_neg (by decide), if_neg h]
theorem Sub_eq (a b : List Int) (k : Nat) (ha : Ws a) (hb : Ws b) (na : a.length < 4611686018427387904) (nb : b.length < 4611686018427387904) (hk : 2 * (a.length + b.length) + 10000 < k) :
    nat_Sub.f k a b = some (if val a < big ∧ val b < big then (if val a < val b then ([], 31) else (ofN (val a - val b), 0)) else ([], 3)) := by
  unfold nat_Sub.f
  rw [both_eq a b k ha hb na nb (by omega) (by omega), bind_s]
  by_cases h : val a < big ∧ val b < big
  · have h1 := len_big h.1; have h2 := len_big h.2
    rw [if_pos h, if_pos rfl, cmp_eq _ _ k (by omega) (by omega), bind_s, if_pos h]
    unfold cmpI
    by_cases g : val a < val b
    · rw [if_pos g, if_pos (by decide), if_pos g]
    · rw [if_neg g, if_neg (by split <;> omega), if_neg g, sub_eq _ _ (by omega) k (by omega) (by omega), bind_s, answer_eq, bind_s, if_pos (by omega)]
  · rw [if_neg h, if_neg (by decide), if_neg h]
theorem Cmp_eq (a b : List Int) (k : Nat) (ha : Ws a) (hb : Ws b) (na : a.length < 4611686018427387904) (nb : b.length < 4611686018427387904) (hk : 2 * (a.length + b.length) + 10000 < k) :
    nat_Cmp.f k a b = some (if val a < big ∧ val b < big then (cmpI (val a) (val b), 0) else (0, 3)) := by
  unfold nat_Cmp.f
  rw [both_eq a b k ha hb na nb (by omega) (by omega), bind_s]
  by_cases h : val a < big ∧ val b < big
  · have h1 := len_big h.1; have h2 := len_big h.2
    rw [if_pos h, cmp_eq _ _ k (by omega) (by omega), bind_s, if_pos h]
  · rw [if_neg h, if_neg h]
    have := cmp_eq 0 0 k (by rw [ofN_zero]; decide) (by rw [ofN_zero]; simp; omega)
    rw [ofN_zero] at this
    rw [this]; rfl
theorem rfit_eq (v : Nat) (k : Nat) (hn : (ofN v).length < 4611686018427387904) (hk : (ofN v).length < k) : ulpref03_fit.f k (ofN v) = some (if v < big then (ofN v, 0) else ([], 3)) := by
  unfold ulpref03_fit.f
  rw [rgreat_eq _ k (ws_ofN v) hn hk, bind_s, val_ofN]
  by_cases h : v < big
  · rw [if_neg (by simpa using h), if_pos h]
  · rw [if_pos (by simpa using h), if_neg h]
theorem rSum_eq (a b : List Int) (k : Nat) (ha : Ws a) (hb : Ws b) (na : a.length < 17592186044000) (nb : b.length < 17592186044000) (hk : 2 * (a.length + b.length) + 10000 < k) :
    ulpref03_Sum.f k a b = some (if val a < big ∧ val b < big then (if val a + val b < big then (ofN (val a + val b), 0) else ([], 3)) else ([], 3)) := by
  obtain ⟨k, rfl⟩ : ∃ m, k = m + 1 := ⟨k - 1, by omega⟩
  unfold ulpref03_Sum.f
  rw [rgreat_eq a _ ha (by omega) (by omega), bind_s]
  by_cases h : val a < big
  · rw [if_neg (by simpa using h), rgreat_eq b _ hb (by omega) (by omega), bind_s]
    simp only [ulpref03_Sum.j0]
    by_cases g : val b < big
    · rw [if_neg (by simpa using g), radd_eq a b k ha hb na nb (by omega), bind_s]
      have := big_add h g
      rw [rfit_eq _ k (by omega) (by omega), bind_s, if_pos (c := val a < big ∧ val b < big) ⟨h, g⟩]
    · rw [if_pos (by simpa using g), if_neg (c := val a < big ∧ val b < big) (fun c => g c.2)]
  · rw [if_pos (by simpa using h)]
    simp only [ulpref03_Sum.j0]
    rw [if_pos trivial, if_neg (c := val a < big ∧ val b < big) (fun c => h c.1)]
theorem rLess_eq (a b : List Int) (k : Nat) (ha : Ws a) (hb : Ws b) (na : a.length < 17592186044000) (nb : b.length < 17592186044000) (hk : 2 * (a.length + b.length) + 10000 < k) :
    ulpref03_Less.f k a b = some (if val a < big ∧ val b < big then (if val a < val b then ([], 31) else (ofN (val a - val b), 0)) else ([], 3)) := by
  obtain ⟨k, rfl⟩ : ∃ m, k = m + 1 := ⟨k - 1, by omega⟩
  unfold ulpref03_Less.f
  rw [rgreat_eq a _ ha (by omega) (by omega), bind_s]
  by_cases h : val a < big
  · rw [if_neg (by simpa using h), rgreat_eq b _ hb (by omega) (by omega), bind_s]
    simp only [ulpref03_Less.j0]
    by_cases g : val b < big
    · rw [if_neg (by simpa using g), rcmp_eq a b k ha hb (by omega) (by omega) (by omega), bind_s, if_pos (c := val a < big ∧ val b < big) ⟨h, g⟩]
      unfold cmpI
      by_cases d : val a < val b
      · rw [if_pos d, if_pos (by decide), if_pos d]
      · rw [if_neg d, if_neg (by split <;> omega), if_neg d, rsub_eq a b k ha hb na nb (by omega) (by omega), bind_s]
    · rw [if_pos (by simpa using g), if_neg (c := val a < big ∧ val b < big) (fun c => g c.2)]
  · rw [if_pos (by simpa using h)]
    simp only [ulpref03_Less.j0]
    rw [if_pos trivial, if_neg (c := val a < big ∧ val b < big) (fun c => h c.1)]
end Go.Proofs.Ytdbhednhhmbooaa.Nf

namespace Go.Proofs.Ytdbhednhhmbooaa.Nf
open Go.RowKit Go.Proofs.Ytdbhednhhmbooaa.PAll Go.Proofs.YtdbhednhhmbooaaW.PrintWords
theorem lives_eq (k : Nat) (hk : 3000 ≤ k) : ulplaw03_lives.f k = some true :=
  at_rounds ulplaw03_lives.mono hk (by decide +kernel)
end Go.Proofs.Ytdbhednhhmbooaa.Nf

namespace Go.Proofs.Ytdbhednhhmbooaa.Pure
open Go.RowKit Go.Proofs.Ytdbhednhhmbooaa.PAll Go.Proofs.YtdbhednhhmbooaaW.PrintWords Go.Proofs.YtdbhednhhmbooaaW.PrintLast Go.Proofs.YtdbhednhhmbooaaW.PrintMore
set_option linter.unusedVariables false
set_option linter.unusedSimpArgs false

open Go.Proofs.Ytdbhednhhmbooaa.Nm Go.Proofs.Ytdbhednhhmbooaa.Nf
theorem NatSums : ulplaw03_NatSums.Pure := by
  intro a b _ na wa _ nb wb
  have ha := ws_wf wa; have hb := ws_wf wb
  have na' : a.length < 17592186044000 := by omega
  have nb' : b.length < 17592186044000 := by omega
  refine ⟨2 * (a.length + b.length) + 20000 + 1, ?_⟩
  obtain ⟨k, hk⟩ : ∃ k, k = 2 * (a.length + b.length) + 20000 := ⟨_, rfl⟩
  rw [← hk]
  unfold ulplaw03_NatSums.f
  rw [Add_eq a b _ ha hb (by omega) (by omega) (by omega), rSum_eq a b _ ha hb na' nb' (by omega), Sub_eq a b _ ha hb (by omega) (by omega) (by omega), rLess_eq a b _ ha hb na' nb' (by omega), Cmp_eq a b _ ha hb (by omega) (by omega) (by omega)]
  simp only [bind_s]
  rw [lives_eq _ (by omega), bind_s, if_pos rfl]
  have fin : ∀ c w, c = (if val a < big ∧ val b < big then cmpI (val a) (val b) else 0) → w = (if val a < big ∧ val b < big then 0 else 3) → ulplaw03_NatSums.j0 (k + 1) a b c w false = some true := by
    intro c w hc hw
    simp only [ulplaw03_NatSums.j0]
    rw [if_neg (by decide), rgreat_eq a k ha (by omega) (by omega), bind_s]
    by_cases h : val a < big
    · rw [if_neg (by simpa using h), rgreat_eq b k hb (by omega) (by omega), bind_s]
      by_cases g : val b < big
      · rw [if_neg (by simpa using g), rcmp_eq a b k ha hb (by omega) (by omega) (by omega), bind_s, hc, if_pos (c := val a < big ∧ val b < big) ⟨h, g⟩, if_pos rfl, hw, if_pos (c := val a < big ∧ val b < big) ⟨h, g⟩]; rfl
      · rw [if_pos (by simpa using g), hc, if_neg (c := val a < big ∧ val b < big) (fun c => g c.2), if_pos rfl, hw, if_neg (c := val a < big ∧ val b < big) (fun c => g c.2)]; rfl
    · rw [if_pos (by simpa using h), hc, if_neg (c := val a < big ∧ val b < big) (fun c => h c.1), if_pos rfl, hw, if_neg (c := val a < big ∧ val b < big) (fun c => h c.1)]; rfl
  have samev : ∀ v : Nat, v < big → ulpref03_Same.f (k + 1) (ofN v) (ofN v) = some true := fun v hv => same_eq _ _ (by have := len_big hv; omega) (by have := len_big hv; omega)
  have same0 : ulpref03_Same.f (k + 1) [] [] = some true := same_eq _ _ (by simp) (by simp)
  by_cases h : val a < big ∧ val b < big
  · simp only [if_pos h] at fin ⊢
    have hs : ∀ x : List Int × Int, x = (if val a + val b < big then (ofN (val a + val b), 0) else ([], 3)) → ulpref03_Same.f (k + 1) x.1 x.1 = some true := by
      intro x hx
      by_cases g : val a + val b < big
      · rw [hx, if_pos g]; exact samev _ g
      · rw [hx, if_neg g]; exact same0
    have hd : ∀ x : List Int × Int, x = (if val a < val b then ([], 31) else (ofN (val a - val b), 0)) → ulpref03_Same.f (k + 1) x.1 x.1 = some true := by
      intro x hx
      by_cases g : val a < val b
      · rw [hx, if_pos g]; exact same0
      · rw [hx, if_neg g]; exact samev _ (Nat.lt_of_le_of_lt (Nat.sub_le _ _) h.1)
    rw [hs _ rfl, bind_s, if_pos rfl, if_pos trivial, hd _ rfl, bind_s, if_pos rfl, bne_self_eq_false]
    exact fin _ _ rfl rfl
  · simp only [if_neg h] at fin ⊢
    rw [same0, bind_s, if_pos rfl, if_pos trivial, bind_s, if_pos rfl, bne_self_eq_false]
    exact fin _ _ rfl rfl

end Go.Proofs.Ytdbhednhhmbooaa.Pure
