/- Plain part. -/
import Derived.Test.YtdbhednhhmbooaaXNatOwnN1
import Derived.Test.YtdbhednhhmbooaaXNatOwnP1
import Derived.Test.YtdbhednhhmbooaaXNatOwnP7
import Derived.Test.YtdbhednhhmbooaaXNatOwnP0
import Derived.Test.YtdbhednhhmbooaaXNatOwnP9
import Derived.Test.YtdbhednhhmbooaaXNatOwnP4
import Derived.Test.YtdbhednhhmbooaaXNatOwnP8
import Derived.Test.YtdbhednhhmbooaaXNatOwnP14
import Derived.Test.YtdbhednhhmbooaaXNatOwnP10
import Derived.Test.YtdbhednhhmbooaaXNatOwnP5
import Derived.Test.YtdbhednhhmbooaaXNatOwnP12
import Derived.Test.YtdbhednhhmbooaaXNatOwnP13
import Derived.Test.YtdbhednhhmbooaaXNatOwnP6
import Derived.Test.YtdbhednhhmbooaaXNatOwnP11
import Derived.Test.YtdbhednhhmbooaaXNatOwnN0
import Derived.Test.YtdbhednhhmbooaaXNatOwnP16
import Derived.Test.YtdbhednhhmbooaaXNatOwnP17
import Derived.Laws.Closers25b
import Derived.Laws.StructEq
namespace Go.Proofs.Ytdbhednhhmbooaa.Nf
open Go.RowKit Go.Proofs.Ytdbhednhhmbooaa.PAll Go.Proofs.YtdbhednhhmbooaaW.PrintWords Go.Proofs.YtdbhednhhmbooaaW.PrintLast Go.Proofs.YtdbhednhhmbooaaW.PrintMore Go.Proofs.Ytdbhednhhmbooaa.Nm
set_option linter.unusedVariables false
set_option linter.unusedSimpArgs false
theorem less_loop (u d : List Int) (hu : Ws u) (hd : Ws d) (n : Nat) (hn : n < 18446744073709551616) (hl : u.length = d.length + 1) (nd : d.length < 35184372088832) (s : Nat) : ∀ (i k : Nat) (o : List Int) (c b : Nat), d.length - i = s → i ≤ d.length → s < k → o.length = u.length → Ws o → c < 18446744073709551616 → b ≤ 1 → (∀ m, i ≤ m → o.getD m 0 = u.getD m 0) →
  val (o.take i) + n * val (d.take i) = val (u.take i) + 18446744073709551616 ^ i * (c + b) →
  ∃ (b' : Nat) (r : List Int), nat_number_less.l0 k o d n c b d d.length i = some (decide (b' > 0), r) ∧ b' ≤ 1 ∧ r.length = u.length ∧ Ws r ∧ val r + n * val d = val u + 18446744073709551616 ^ u.length * b' := by
 induction s with
 | zero =>
  intro i k o c b hs hi hk ho hw hc hb hz hv
  obtain ⟨k, rfl⟩ : ∃ m, k = m + 1 := ⟨k - 1, by omega⟩
  obtain rfl : i = d.length := by omega
  have g0 : ¬ ((d.length : Int) < (d.length : Int)) := by omega
  have g1 : (d.length : Int) < (o.length : Int) := by omega
  have g2 : (b : Int) ≤ 1 := by omega
  have i1 : d.length < o.length := by omega
  obtain ⟨p0, p1⟩ := ws_get hu d.length
  have hzm := hz d.length (Nat.le_refl _)
  obtain ⟨b', hb', eb, ew⟩ := sub_word (x := u.getD d.length 0) (y := (c : Int)) (c := b) p0 p1 (Int.natCast_nonneg _) (Int.ofNat_lt.2 hc) hb
  have slo := s64s_lo (u.getD d.length 0) (c : Int) (b : Int)
  have shi := s64s_hi (u.getD d.length 0) (c : Int) (b : Int)
  rw [Int.toNat_natCast] at ew
  refine ⟨b', o.set d.length (sub64s (u.getD d.length 0) (c : Int) (b : Int)), ?_, hb', by rw [List.length_set]; exact ho, ws_set hw _ slo shi, ?_⟩
  ·simp only [nat_number_less.l0]
   rw [if_neg g0, if_pos (Int.natCast_nonneg _), if_pos g1, if_pos g2, rd_nat, hzm, Int.toNat_natCast, eb]
   congr 2
   rw [decide_eq_decide]; omega
  ·have e := val_set_take o d.length (sub64s (u.getD d.length 0) (c : Int) (b : Int)) i1
   rw [val_take_ge _ (d.length + 1) (by rw [List.length_set]; omega)] at e
   have eu := val_take_succ u d.length (by omega)
   rw [val_take_ge u _ (by omega)] at eu
   rw [val_take_ge d _ (Nat.le_refl _)] at hv
   rw [e, eu, hl, Nat.pow_succ]
   exact less_end hv ew
 | succ s ih =>
  intro i k o c b hs hi hk ho hw hc hb hz hv
  obtain ⟨k, rfl⟩ : ∃ m, k = m + 1 := ⟨k - 1, by omega⟩
  have i1 : d.length - (i + 1) = s := by omega
  have i2 : i + 1 ≤ d.length := by omega
  have i3 : s < k := by omega
  have i4 : i < o.length := by omega
  have g0 : (i : Int) < (d.length : Int) := by omega
  have g1 : (i : Int) < (o.length : Int) := by omega
  have g2 : (b : Int) ≤ 1 := by omega
  have b3 : i < 4611686018427387904 := by omega
  have hzi := hz i (Nat.le_refl _)
  have tu := take_succ_getD u i
  have td := take_succ_getD d i
  obtain ⟨p0, p1⟩ := ws_get hu i
  obtain ⟨q0, q1⟩ := ws_get hd i
  have ed := asNat q0
  generalize hwn : (d.getD i 0).toNat = w at *
  have w1 : w < 18446744073709551616 := Int.ofNat_lt.1 (ed ▸ q1)
  have hbd := mul_bound (o := 0) (c := c) (x := w) (y := n) (by decide) hc w1 hn
  rw [Nat.zero_add] at hbd
  obtain ⟨m1, m2⟩ := mac_lin (o := c) (c := 0) (p := w * n) (h := w * n / 18446744073709551616) (l := w * n % 18446744073709551616) (by omega) (Nat.mod_lt _ (by decide))
  have c1 : (w * n % 18446744073709551616 + c) % 18446744073709551616 < 18446744073709551616 := Nat.mod_lt _ (by decide)
  have c2 : w * n / 18446744073709551616 + (w * n % 18446744073709551616 + c) / 18446744073709551616 < 18446744073709551616 := by
   have : (c + w * n) / 18446744073709551616 = w * n / 18446744073709551616 + (w * n % 18446744073709551616 + c) / 18446744073709551616 := by omega
   omega
  have c3 : (w * n % 18446744073709551616 + c) % 18446744073709551616 + 18446744073709551616 * (w * n / 18446744073709551616 + (w * n % 18446744073709551616 + c) / 18446744073709551616) = w * n + c := by omega
  clear m1 m2 hbd
  generalize hL : (w * n % 18446744073709551616 + c) % 18446744073709551616 = L at *
  obtain ⟨b', hb', eb, ew⟩ := sub_word (x := u.getD i 0) (y := (L : Int)) (c := b) p0 p1 (Int.natCast_nonneg _) (Int.ofNat_lt.2 c1) hb
  have slo := s64s_lo (u.getD i 0) (L : Int) (b : Int)
  have shi := s64s_hi (u.getD i 0) (L : Int) (b : Int)
  rw [Int.toNat_natCast] at ew
  have s1 : add64s ((w * n % 18446744073709551616 : Nat) : Int) (c : Int) 0 = (L : Int) := by
   rw [a64s]; simp only [Int.toNat_natCast, Int.toNat_zero, Nat.add_zero]; rw [hL]
  have s2 : add64c ((w * n % 18446744073709551616 : Nat) : Int) (c : Int) 0 = (((w * n % 18446744073709551616 + c) / 18446744073709551616 : Nat) : Int) := by
   rw [a64c]; simp only [Int.toNat_natCast, Int.toNat_zero, Nat.add_zero]
  simp only [nat_number_less.l0]
  rw [if_pos g0, if_pos (Int.natCast_nonneg _), if_pos g0, rd_nat, ed, Mul64_eq w n w1 hn, bind_s, if_pos g1, if_pos g2, rd_nat, hzi]
  dsimp only
  rw [s1, s2, wrapN2 c2, eb, wrap_succ b3, Int.toNat_natCast]
  refine ih (i + 1) k _ _ b' i1 i2 i3 (by rw [List.length_set]; exact ho) (ws_set hw _ slo shi) c2 hb' ?_ ?_
  ·intro m hm
   rw [Nm.getD_set_ne _ _ _ _ (Nat.ne_of_lt hm)]
   exact hz m (Nat.le_of_succ_le hm)
  ·rw [val_set_take o _ _ i4, td, tu, Nat.pow_succ]
   exact less_lin hv ew c3
theorem less_eq (u d : List Int) (hu : Ws u) (hd : Ws d) (n k : Nat) (hn : n < 18446744073709551616) (hl : u.length = d.length + 1) (nd : d.length < 35184372088832) (hk : d.length < k) :
  ∃ (b : Nat) (r : List Int), nat_number_less.f k u d n = some (decide (b > 0), r) ∧ b ≤ 1 ∧ r.length = u.length ∧ Ws r ∧ val r + n * val d = val u + 18446744073709551616 ^ u.length * b := by
 unfold nat_number_less.f
 exact less_loop u d hu hd n hn hl nd _ 0 k u 0 0 rfl (Nat.zero_le _) hk rfl hu (by decide) (by decide) (fun _ _ => rfl) (by simp [val])
theorem back_loop (u d : List Int) (hu : Ws u) (hd : Ws d) (hl : u.length = d.length + 1) (nd : d.length < 35184372088832) (s : Nat) : ∀ (i k : Nat) (o : List Int) (c : Nat), d.length - i = s → i ≤ d.length → s < k → o.length = u.length → Ws o → c ≤ 1 → (∀ m, i ≤ m → o.getD m 0 = u.getD m 0) →
  val (o.take i) + 18446744073709551616 ^ i * c = val (u.take i) + val (d.take i) →
  ∃ (c' : Nat) (r : List Int), nat_number_back.l0 k o d c d d.length i = some r ∧ r.length = u.length ∧ Ws r ∧ val r + 18446744073709551616 ^ u.length * c' = val u + val d := by
 induction s with
 | zero =>
  intro i k o c hs hi hk ho hw hc hz hv
  obtain ⟨k, rfl⟩ : ∃ m, k = m + 1 := ⟨k - 1, by omega⟩
  obtain rfl : i = d.length := by omega
  have g0 : ¬ ((d.length : Int) < (d.length : Int)) := by omega
  have g1 : (d.length : Int) < (o.length : Int) := by omega
  have i1 : d.length < o.length := by omega
  obtain ⟨p0, p1⟩ := ws_get hu d.length
  have hzm := hz d.length (Nat.le_refl _)
  have eu := val_take_succ u d.length (by omega)
  rw [val_take_ge u _ (by omega)] at eu
  rw [val_take_ge d _ (Nat.le_refl _)] at hv
  have ew := asNat p0
  generalize hwn : (u.getD d.length 0).toNat = w at *
  have c1 : (w + c) % 18446744073709551616 < 18446744073709551616 := Nat.mod_lt _ (by decide)
  have c2 : (w + c) % 18446744073709551616 + 18446744073709551616 * ((w + c) / 18446744073709551616) = w + c := Nat.mod_add_div _ _
  refine ⟨(w + c) / 18446744073709551616, o.set d.length (((w + c) % 18446744073709551616 : Nat) : Int), ?_, by rw [List.length_set]; exact ho, ws_set hw _ (Int.natCast_nonneg _) (Int.ofNat_lt.2 c1), ?_⟩
  ·simp only [nat_number_back.l0]
   rw [if_neg g0, if_pos (Int.natCast_nonneg _), if_pos g1, rd_nat, hzm, ew, wrapM, Int.toNat_natCast]
  ·have e := val_set_take o d.length (((w + c) % 18446744073709551616 : Nat) : Int) i1
   rw [val_take_ge _ (d.length + 1) (by rw [List.length_set]; omega), Int.toNat_natCast] at e
   rw [e, eu, hl, Nat.pow_succ]
   have f : 18446744073709551616 ^ d.length * ((w + c) % 18446744073709551616 + 18446744073709551616 * ((w + c) / 18446744073709551616)) = 18446744073709551616 ^ d.length * (w + c) := by rw [c2]
   rw [Nat.mul_add, Nat.mul_add, ← Nat.mul_assoc] at f
   omega
 | succ s ih =>
  intro i k o c hs hi hk ho hw hc hz hv
  obtain ⟨k, rfl⟩ : ∃ m, k = m + 1 := ⟨k - 1, by omega⟩
  have i1 : d.length - (i + 1) = s := by omega
  have i2 : i + 1 ≤ d.length := by omega
  have i3 : s < k := by omega
  have i4 : i < o.length := by omega
  have g0 : (i : Int) < (d.length : Int) := by omega
  have g1 : (i : Int) < (o.length : Int) := by omega
  have g2 : (c : Int) ≤ 1 := by omega
  have b3 : i < 4611686018427387904 := by omega
  have hzi := hz i (Nat.le_refl _)
  have tu := take_succ_getD u i
  have td := take_succ_getD d i
  obtain ⟨p0, p1⟩ := ws_get hu i
  obtain ⟨q0, q1⟩ := ws_get hd i
  obtain ⟨c', hc', ed⟩ := a64c_bd (x := u.getD i 0) (y := d.getD i 0) (c := c) p1 q1 hc
  have hs' : (add64s (u.getD i 0) (d.getD i 0) c).toNat + 18446744073709551616 * c' = (u.getD i 0).toNat + (d.getD i 0).toNat + c := by
   rw [a64s]; rw [a64c] at ed
   simp only [Int.toNat_natCast] at ed ⊢
   omega
  simp only [nat_number_back.l0]
  rw [if_pos g0, if_pos (Int.natCast_nonneg _), if_pos g0, if_pos g1, if_pos g2, rd_nat, rd_nat, hzi, ed, wrap_succ b3, Int.toNat_natCast]
  refine ih (i + 1) k _ c' i1 i2 i3 (by rw [List.length_set]; exact ho) (ws_set hw _ (a64s_lo _ _ _) (a64s_hi _ _ _)) hc' ?_ ?_
  ·intro m hm
   rw [Nm.getD_set_ne _ _ _ _ (Nat.ne_of_lt hm)]
   exact hz m (Nat.le_of_succ_le hm)
  ·rw [val_set_take o _ _ i4, td, tu, Nat.pow_succ]
   exact add_step hs' hv
theorem back_eq (u d : List Int) (hu : Ws u) (hd : Ws d) (k : Nat) (hl : u.length = d.length + 1) (nd : d.length < 35184372088832) (hk : d.length < k) :
  ∃ (c : Nat) (r : List Int), nat_number_back.f k u d = some r ∧ r.length = u.length ∧ Ws r ∧ val r + 18446744073709551616 ^ u.length * c = val u + val d := by
 unfold nat_number_back.f
 exact back_loop u d hu hd hl nd _ 0 k u 0 rfl (Nat.zero_le _) hk rfl hu (by decide) (fun _ _ => rfl) (by simp [val])
theorem hi_lo_test {g e r c : Nat} (hc : c < 18446744073709551616) : (g * e ≤ r * 18446744073709551616 + c) ↔ (g * e / 18446744073709551616 < r ∨ (g * e / 18446744073709551616 = r ∧ g * e % 18446744073709551616 ≤ c)) := by
 generalize g * e = p
 omega
theorem digit_loop {y d e u c Q : Nat} (hy : y = d * 18446744073709551616 + e) (hd : 9223372036854775808 ≤ d) (hd' : d < 18446744073709551616) (he : e < 18446744073709551616) (hc : c < 18446744073709551616) (hQ : Q = min 18446744073709551615 ((u * 18446744073709551616 + c) / y)) (n : Nat) : ∀ (k g r : Nat), g * d + r = u → Q ≤ g → g < 18446744073709551616 → r < 18446744073709551616 → 18446744073709551616 ≤ r + n * 9223372036854775808 → 2 * n < k →
  nat_digit.l0 k c d e g r = some (Q : Int) := by
 induction n with
 | zero => intro k g r _ _ _ hr hn _; omega
 | succ n ih =>
  intro k g r hg hq hg2 hr hn hk
  obtain ⟨k, rfl⟩ : ∃ m, k = m + 2 := ⟨k - 2, by omega⟩
  have hyp : 0 < y := by omega
  have t := hi_lo_test (g := g) (e := e) (r := r) hc
  have pass : g * e ≤ r * 18446744073709551616 + c → g = Q := fun h => by
   have := dig_low (d := c) hy hyp hg h
   omega
  have fin : (g * e ≤ r * 18446744073709551616 + c) → nat_digit.j2 (k + 1) c d e g r true = some (Q : Int) := fun h => by
   simp only [nat_digit.j2]; rw [if_pos trivial, pass h]
  have fail : ¬ (g * e ≤ r * 18446744073709551616 + c) → nat_digit.j2 (k + 1) c d e g r false = some (Q : Int) := fun h => by
   have lt := dig_down (d := c) hy hyp hg (by omega)
   have g0 : 0 < g := Nat.zero_lt_of_lt lt
   have e2 := dec_mul g0 hg
   have i1 : Q ≤ g - 1 := by omega
   have ex : 18446744073709551616 ≤ r + d → g - 1 = Q := fun h2 => by
    have hz : (g - 1) * e ≤ 18446744073709551616 * 18446744073709551616 := Nat.mul_le_mul (by omega) (by omega)
    have := dig_low (q := g - 1) (r := r + d) (d := c) hy hyp e2 (by
     have : 18446744073709551616 * 18446744073709551616 ≤ (r + d) * 18446744073709551616 := Nat.mul_le_mul_right _ h2
     omega)
    omega
   have i2 : g - 1 < 18446744073709551616 := by omega
   have i4 : 18446744073709551616 ≤ r + d + n * 9223372036854775808 := by omega
   have i5 : 2 * n < k := by omega
   have s1 : add64s (r : Int) (d : Int) 0 = (((r + d) % 18446744073709551616 : Nat) : Int) := by
    rw [a64s]; simp only [Int.toNat_natCast, Int.toNat_zero, Nat.add_zero]
   have s2 : add64c (r : Int) (d : Int) 0 = (((r + d) / 18446744073709551616 : Nat) : Int) := by
    rw [a64c]; simp only [Int.toNat_natCast, Int.toNat_zero, Nat.add_zero]
   simp only [nat_digit.j2]
   rw [if_neg (by decide), s1, s2, wrap_dec g0 hg2]
   by_cases h2 : 18446744073709551616 ≤ r + d
   ·rw [if_pos (by clear s1 s2; omega), ex h2]
   ·have m1 : (r + d) % 18446744073709551616 = r + d := Nat.mod_eq_of_lt (by omega)
    rw [if_neg (by clear s1 s2; omega), m1]
    exact ih k (g - 1) (r + d) e2 i1 i2 (by clear s1 s2; omega) i4 i5
  have w1 : g < 18446744073709551616 := hg2
  simp only [nat_digit.l0]
  rw [Mul64_eq g e w1 he, bind_s]
  dsimp only
  generalize g * e / 18446744073709551616 = H at *
  generalize g * e % 18446744073709551616 = L at *
  by_cases h1 : H < r
  ·rw [if_pos (Int.ofNat_lt.2 h1)]
   exact fin (t.2 (.inl h1))
  ·rw [if_neg (fun h => h1 (Int.ofNat_lt.1 h))]
   by_cases h2 : H = r
   ·rw [if_pos (congrArg Nat.cast h2)]
    by_cases h3 : L ≤ c
    ·rw [decide_eq_true (Int.ofNat_le.2 h3)]
     exact fin (t.2 (.inr ⟨h2, h3⟩))
    ·rw [decide_eq_false (fun h => h3 (Int.ofNat_le.1 h))]
     exact fail (fun h => (t.1 h).elim h1 (fun h => h3 h.2))
   ·rw [if_neg (show ¬ (H : Int) = (r : Int) from fun h => h2 (Int.ofNat.inj h))]
    exact fail (fun h => (t.1 h).elim h1 (fun h => h2 h.1))
theorem digit_eq (k a b c d e : Nat) (hd : 9223372036854775808 ≤ d) (hd' : d < 18446744073709551616) (hb : b < 18446744073709551616) (hc : c < 18446744073709551616) (he : e < 18446744073709551616) (ha : a ≤ d) (hk : 60 < k) :
  nat_digit.f k a b c d e = some ((min 18446744073709551615 (((a * 18446744073709551616 + b) * 18446744073709551616 + c) / (d * 18446744073709551616 + e)) : Nat) : Int) := by
 unfold nat_digit.f
 obtain ⟨k, rfl⟩ : ∃ m, k = m + 1 := ⟨k - 1, by omega⟩
 obtain ⟨y, hy⟩ : ∃ y, y = d * 18446744073709551616 + e := ⟨_, rfl⟩
 obtain ⟨u, hu⟩ : ∃ u, u = a * 18446744073709551616 + b := ⟨_, rfl⟩
 obtain ⟨Q, hQ⟩ : ∃ Q, Q = min 18446744073709551615 ((u * 18446744073709551616 + c) / y) := ⟨_, rfl⟩
 rw [← hy, ← hu, ← hQ]
 have hyp : 0 < y := by omega
 by_cases h : a < d
 ·have hq := word_div_lt h hb
  have hm : (a * 18446744073709551616 + b) % d < d := Nat.mod_lt _ (by omega)
  have hdm := Nat.div_add_mod (a * 18446744073709551616 + b) d
  rw [if_pos (Int.ofNat_lt.2 h), Div64_eq (k + 1) a b d h hb hd' (by omega), bind_s]
  dsimp only
  simp only [nat_digit.j0]
  rw [← hu] at hq hm hdm ⊢
  refine digit_loop hy hd hd' he hc hQ 3 k _ _ (by rw [Nat.mul_comm]; exact hdm) ?_ hq (by omega) (by omega) (by omega)
  rw [hQ]
  refine Nat.le_trans (Nat.min_le_right _ _) ?_
  rw [← Nat.lt_succ_iff, Nat.div_lt_iff_lt_mul hyp]
  have f1 : u < d * (u / d + 1) := Nat.lt_mul_div_succ u (by omega)
  have f2 : (u + 1) * 18446744073709551616 ≤ d * (u / d + 1) * 18446744073709551616 := Nat.mul_le_mul_right _ f1
  have f3 : (u / d + 1) * y = d * (u / d + 1) * 18446744073709551616 + (u / d + 1) * e := by rw [hy, Nat.mul_add, ← Nat.mul_assoc, Nat.mul_comm (u / d + 1) d]
  have : u * 18446744073709551616 + c < (u / d + 1) * y := by rw [f3]; omega
  exact this
 ·have had : a = d := by omega
  subst had
  have s1 : add64s (b : Int) (a : Int) 0 = (((b + a) % 18446744073709551616 : Nat) : Int) := by
   rw [a64s]; simp only [Int.toNat_natCast, Int.toNat_zero, Nat.add_zero]
  have s2 : add64c (b : Int) (a : Int) 0 = (((b + a) / 18446744073709551616 : Nat) : Int) := by
   rw [a64c]; simp only [Int.toNat_natCast, Int.toNat_zero, Nat.add_zero]
  have e0 : 18446744073709551615 * a + (b + a) = u := by omega
  rw [if_neg (fun h2 => h (Int.ofNat_lt.1 h2)), s1, s2]
  by_cases h2 : 18446744073709551616 ≤ b + a
  ·have hz : 18446744073709551615 * e ≤ (b + a) * 18446744073709551616 + c := by
    have : 18446744073709551616 * 18446744073709551616 ≤ (b + a) * 18446744073709551616 := Nat.mul_le_mul_right _ h2
    omega
   have := dig_low (d := c) hy hyp e0 hz
   have hQ2 : Q = 18446744073709551615 := by omega
   rw [if_pos (by clear s1 s2; omega), hQ2]; rfl
  ·have m1 : (b + a) % 18446744073709551616 = b + a := Nat.mod_eq_of_lt (by omega)
   rw [if_neg (by clear s1 s2; omega), m1]
   simp only [nat_digit.j0]
   exact digit_loop hy hd hd' he hc hQ 3 k 18446744073709551615 (b + a) e0 (by rw [hQ]; exact Nat.min_le_left _ _) (by decide) (by clear s1 s2; omega) (by clear s1 s2; omega) (by omega)
end Go.Proofs.Ytdbhednhhmbooaa.Nf

namespace Go.Proofs.Ytdbhednhhmbooaa.Nf
open Go.RowKit Go.Proofs.Ytdbhednhhmbooaa.PAll Go.Proofs.YtdbhednhhmbooaaW.PrintWords Go.Proofs.YtdbhednhhmbooaaW.PrintLast Go.Proofs.YtdbhednhhmbooaaW.PrintMore Go.Proofs.Ytdbhednhhmbooaa.Nm
set_option linter.unusedVariables false
set_option linter.unusedSimpArgs false
theorem window (U : List Int) (hU : Ws U) (j n : Nat) (hn : 2 ≤ n) (hl : j + n < U.length) : val ((U.take (j + n + 1)).drop j) =
  (((U.getD (j + n) 0).toNat * 18446744073709551616 + (U.getD (j + n - 1) 0).toNat) * 18446744073709551616 + (U.getD (j + n - 2) 0).toNat) * 18446744073709551616 ^ (n - 2) + val ((U.take (j + n - 2)).drop j) ∧ val ((U.take (j + n - 2)).drop j) < 18446744073709551616 ^ (n - 2) := by
 obtain ⟨m, rfl⟩ : ∃ m, n = m + 2 := ⟨n - 2, by omega⟩
 have e1 : j + (m + 2) - 1 = j + m + 1 := by omega
 have e2 : j + (m + 2) - 2 = j + m := by omega
 have e3 : m + 2 - 2 = m := by omega
 have e4 : j + (m + 2) = j + m + 2 := by omega
 rw [e1, e2, e3, e4]
 have st : ∀ i, j ≤ i → i < U.length → val ((U.take (i + 1)).drop j) = val ((U.take i).drop j) + 18446744073709551616 ^ (i - j) * (U.getD i 0).toNat := by
  intro i hi hl
  rw [List.take_succ_eq_append_getElem hl, List.drop_append_of_le_length (by rw [List.length_take]; omega), val_append, List.length_drop, List.length_take, Nat.min_eq_left (by omega), List.getD_eq_getElem?_getD, List.getElem?_eq_getElem hl]
  simp [val]
 constructor
 ·have s1 := st (j + m + 2) (by omega) (by omega)
  have s2 := st (j + m + 1) (by omega) (by omega)
  have s3 := st (j + m) (by omega) (by omega)
  have f1 : j + m + 2 - j = m + 2 := by omega
  have f2 : j + m + 1 - j = m + 1 := by omega
  have f3 : j + m - j = m := by omega
  rw [f1] at s1
  rw [f2] at s2
  rw [f3] at s3
  have hp2 : 18446744073709551616 ^ (m + 2) = 18446744073709551616 ^ m * (18446744073709551616 * 18446744073709551616) := by rw [Nat.pow_succ, Nat.pow_succ, Nat.mul_assoc]
  rw [s1, s2, s3, hp2, Nat.pow_succ]
  clear hp2 s1 s2 s3
  generalize (U.getD (j + m + 2) 0).toNat = a
  generalize (U.getD (j + m + 1) 0).toNat = b
  generalize (U.getD (j + m) 0).toNat = c
  generalize val ((U.take (j + m)).drop j) = v
  generalize 18446744073709551616 ^ m = P
  rw [Nat.add_mul, Nat.add_mul, Nat.add_mul, Nat.mul_assoc P, Nat.mul_assoc P, Nat.mul_comm c P]
  have g0 : a * 18446744073709551616 * 18446744073709551616 = 18446744073709551616 * 18446744073709551616 * a := by omega
  have g1 : a * 18446744073709551616 * 18446744073709551616 * P = P * (18446744073709551616 * 18446744073709551616 * a) := by rw [g0, Nat.mul_comm]
  have g2 : b * 18446744073709551616 * P = P * (18446744073709551616 * b) := by rw [Nat.mul_comm _ P, Nat.mul_comm b]
  rw [g1, g2]
  have g3 : P * (18446744073709551616 * 18446744073709551616) * a = P * (18446744073709551616 * 18446744073709551616 * a) := by rw [Nat.mul_assoc]
  have g4 : P * 18446744073709551616 * b = P * (18446744073709551616 * b) := by rw [Nat.mul_assoc]
  omega
 ·have h := val_lt (ws_drop (ws_take hU (j + m)) j)
  rw [List.length_drop, List.length_take, Nat.min_eq_left (by omega)] at h
  have : j + m - j = m := by omega
  rw [this] at h; exact h
end Go.Proofs.Ytdbhednhhmbooaa.Nf

namespace Go.Proofs.Ytdbhednhhmbooaa.Nf
open Go.RowKit Go.Proofs.Ytdbhednhhmbooaa.PAll Go.Proofs.YtdbhednhhmbooaaW.PrintWords Go.Proofs.YtdbhednhhmbooaaW.PrintLast Go.Proofs.YtdbhednhhmbooaaW.PrintMore Go.Proofs.Ytdbhednhhmbooaa.Nm
set_option linter.unusedVariables false
set_option linter.unusedSimpArgs false
theorem view_again (A r R : List Int) (j h : Nat) (hA : A.length = j) (hr : j + r.length = h) : ((A ++ r ++ R).take h).drop j = r ∧ (A ++ r ++ R).take j = A ∧ (A ++ r ++ R).drop h = R := by
 subst hA hr
 have e : A.length + r.length = (A ++ r).length := by simp
 refine ⟨?_, ?_, ?_⟩
 ·rw [e, List.take_left, List.drop_left]
 ·rw [List.append_assoc, List.take_left]
 ·rw [e, List.drop_left]
theorem view_split (U : List Int) (j h : Nat) (hj : j ≤ h) (hh : h ≤ U.length) : U = U.take j ++ (U.take h).drop j ++ U.drop h := by
 have e : U.take j = (U.take h).take j := by rw [List.take_take]; congr 1; omega
 rw [e, List.take_append_drop, List.take_append_drop]
theorem top_two (d : List Int) (hd : Ws d) (n : Nat) (hn : 2 ≤ n) (hl : d.length = n) : val d = ((d.getD (n - 1) 0).toNat * 18446744073709551616 + (d.getD (n - 2) 0).toNat) * 18446744073709551616 ^ (n - 2) + val (d.take (n - 2)) ∧ val (d.take (n - 2)) < 18446744073709551616 ^ (n - 2) := by
 obtain ⟨m, rfl⟩ : ∃ m, n = m + 2 := ⟨n - 2, by omega⟩
 have e1 : m + 2 - 1 = m + 1 := by omega
 have e3 : m + 2 - 2 = m := by omega
 rw [e1, e3]
 refine ⟨?_, val_take_lt hd m⟩
 have s1 := val_take_succ d (m + 1) (by omega)
 have s2 := val_take_succ d m (by omega)
 rw [val_take_ge d _ (by omega)] at s1
 rw [s1, s2, Nat.pow_succ]
 generalize (d.getD (m + 1) 0).toNat = a
 generalize (d.getD m 0).toNat = b
 generalize val (d.take m) = v
 generalize 18446744073709551616 ^ m = P
 rw [Nat.add_mul, Nat.mul_comm b P, Nat.mul_comm (a * 18446744073709551616) P, Nat.mul_comm a, ← Nat.mul_assoc P]
 omega
theorem step_sum {A P W V Q R q : Nat} (h : W = Q * V + R) : A + P * R + V * (P * (Q + 18446744073709551616 * q)) = A + P * W + V * (P * 18446744073709551616 * q) := by
 subst h
 rw [Nat.mul_add, Nat.mul_add, Nat.mul_add, ← Nat.mul_assoc P 18446744073709551616 q]
 have e : P * (Q * V) = V * (P * Q) := by rw [Nat.mul_comm Q V, Nat.mul_left_comm]
 rw [e]; omega
theorem digit_step (U d : List Int) (hU : Ws U) (hd : Ws d) (n j k : Nat) (hn : 2 ≤ n) (hl : d.length = n) (hj : j + n < U.length) (nU : U.length < 35184372088832) (htop : 9223372036854775808 ≤ (d.getD (n - 1) 0).toNat) (hlt : val (U.drop (j + 1)) < val d) (hk : n + 100 < k) :
  ∃ (G Q : Nat) (b : Nat) (r : List Int), nat_digit.f k (U.getD (j + n) 0) (U.getD (j + n - 1) 0) (U.getD (j + n - 2) 0) (d.getD (n - 1) 0) (d.getD (n - 2) 0) = some (G : Int) ∧ G < 18446744073709551616 ∧
   nat_number_lessAt.f k U j ((j + n + 1 : Nat) : Int) d G = some (decide (b > 0), U.take j ++ r ++ U.drop (j + n + 1)) ∧ b ≤ 1 ∧ r.length = n + 1 ∧ Ws r ∧
   val (U.drop j) = val ((U.take (j + n + 1)).drop j) ∧ val (U.drop (j + n + 1)) = 0 ∧ Q = val ((U.take (j + n + 1)).drop j) / val d ∧
   (b = 0 → G = Q ∧ val r = val ((U.take (j + n + 1)).drop j) % val d) ∧
   (b = 1 → G = Q + 1 ∧ ∃ r', nat_number_backAt.f k (U.take j ++ r ++ U.drop (j + n + 1)) j ((j + n + 1 : Nat) : Int) d = some (U.take j ++ r' ++ U.drop (j + n + 1)) ∧ r'.length = n + 1 ∧ Ws r' ∧ val r' = val ((U.take (j + n + 1)).drop j) % val d) := by
 have hV : val d < 18446744073709551616 ^ n := by rw [← hl]; exact val_lt hd
 obtain ⟨t1, t2⟩ := top_two d hd n hn hl
 obtain ⟨w1, w2⟩ := window U hU j n hn hj
 -- what lies above is 0
 have sp := val_take_drop (U.drop (j + 1)) n (by rw [List.length_drop]; omega)
 rw [List.drop_drop] at sp
 have e1 : j + 1 + n = j + n + 1 := by omega
 rw [e1] at sp
 have hz : val (U.drop (j + n + 1)) = 0 := by
  rcases Nat.eq_zero_or_pos (val (U.drop (j + n + 1))) with h | h
  ·exact h
  ·have := Nat.le_mul_of_pos_right (18446744073709551616 ^ n) h
   omega
 have sj := val_take_drop (U.drop j) (n + 1) (by rw [List.length_drop]; omega)
 rw [List.drop_drop] at sj
 have e2 : j + (n + 1) = j + n + 1 := by omega
 rw [e2, hz, Nat.mul_zero, Nat.add_zero] at sj
 have e3 : (U.drop j).take (n + 1) = (U.take (j + n + 1)).drop j := by
  rw [List.take_drop]
  have : j + (n + 1) = j + n + 1 := by omega
  rw [this]
 rw [e3] at sj
 have vd := val_drop U j (by omega)
 obtain ⟨a0, a1⟩ := ws_get hU (j + n)
 obtain ⟨b0, b1⟩ := ws_get hU (j + n - 1)
 obtain ⟨c0, c1⟩ := ws_get hU (j + n - 2)
 obtain ⟨d0, d1⟩ := ws_get hd (n - 1)
 obtain ⟨f0, f1⟩ := ws_get hd (n - 2)
 obtain ⟨u0, u1⟩ := ws_get hU j
 have ea := asNat a0
 have eb := asNat b0
 have ec := asNat c0
 have ed := asNat d0
 have ef := asNat f0
 have ww : Ws ((U.take (j + n + 1)).drop j) := ws_drop (ws_take hU _) _
 have wl : ((U.take (j + n + 1)).drop j).length = d.length + 1 := by rw [List.length_drop, List.length_take]; omega
 -- the highest word is no greater
 have had : (U.getD (j + n) 0).toNat ≤ (d.getD (n - 1) 0).toNat := by
  have s1 := val_take_drop (U.drop (j + 1)) (n - 1) (by rw [List.length_drop]; omega)
  rw [List.drop_drop] at s1
  have f1 : j + 1 + (n - 1) = j + n := by omega
  rw [f1, val_drop U (j + n) hj] at s1
  have s2 := val_take_succ d (n - 1) (by omega)
  have f2 : n - 1 + 1 = n := by omega
  rw [f2, val_take_ge d n (by omega)] at s2
  have s3 := val_take_lt hd (n - 1)
  have g1 : 18446744073709551616 ^ (n - 1) * (U.getD (j + n) 0).toNat ≤ val (U.drop (j + 1)) := by
   rw [s1, Nat.mul_add]; omega
  have g2 : 18446744073709551616 ^ (n - 1) * (U.getD (j + n) 0).toNat < 18446744073709551616 ^ (n - 1) * ((d.getD (n - 1) 0).toNat + 1) := by
   rw [Nat.mul_add, Nat.mul_one]; omega
  have := Nat.lt_of_mul_lt_mul_left g2
  omega
 generalize ha : (U.getD (j + n) 0).toNat = a at *
 generalize hb : (U.getD (j + n - 1) 0).toNat = b at *
 generalize hc : (U.getD (j + n - 2) 0).toNat = c at *
 generalize hd1 : (d.getD (n - 1) 0).toNat = D at *
 generalize he1 : (d.getD (n - 2) 0).toNat = E at *
 have la : b < 18446744073709551616 := Int.ofNat_lt.1 (eb ▸ b1)
 have lc : c < 18446744073709551616 := Int.ofNat_lt.1 (ec ▸ c1)
 have lD : D < 18446744073709551616 := Int.ofNat_lt.1 (ed ▸ d1)
 have lE : E < 18446744073709551616 := Int.ofNat_lt.1 (ef ▸ f1)
 have hdig := digit_eq k a b c D E htop lD la lc lE had (by omega)
 obtain ⟨G, hG⟩ : ∃ G, G = min 18446744073709551615 (((a * 18446744073709551616 + b) * 18446744073709551616 + c) / (D * 18446744073709551616 + E)) := ⟨_, rfl⟩
 rw [← hG] at hdig
 have hGl : G < 18446744073709551616 := by rw [hG]; exact Nat.lt_of_le_of_lt (Nat.min_le_left _ _) (by decide)
 obtain ⟨bb, r, hless, hb1, hrl, hrw, hre⟩ := less_eq ((U.take (j + n + 1)).drop j) d ww hd G k hGl wl (by omega) (by omega)
 obtain ⟨cc, r', hback, hrl', hrw', hre'⟩ := back_eq r d hrw hd k (by omega) (by omega) (by omega)
 have kn := knuth (M := 18446744073709551616) (K := 18446744073709551616 ^ (n - 2)) (U := (a * 18446744073709551616 + b) * 18446744073709551616 + c) (u := val ((U.take (j + n - 2)).drop j)) (V := D * 18446744073709551616 + E) (v := val (d.take (n - 2))) (Q := val ((U.take (j + n + 1)).drop j) / val d) (G := G) w2 t2 (by omega) hG (by decide) (by rw [← w1, ← t1]) (by rw [← w1, ← t1, ← sj, vd]; omega)
 have hVp : 0 < val d := by omega
 have hlen : ((U.take (j + n + 1)).drop j).length = n + 1 := by omega
 rw [hlen] at hre
 have hrl2 : r.length = n + 1 := by omega
 rw [hrl2] at hre' hrl'
 have hrb : val r < 18446744073709551616 ^ (n + 1) := by rw [← hrl2]; exact val_lt hrw
 have hrb' : val r' < 18446744073709551616 ^ (n + 1) := by rw [← hrl']; exact val_lt hrw'
 have hVE : val d ≤ 18446744073709551616 ^ (n + 1) := Nat.le_trans (Nat.le_of_lt hV) (Nat.pow_le_pow_right (by decide) (by omega))
 have lb := less_back hVp rfl kn.1 kn.2 hVE hb1 hre hrb hre' hrb'
 have i1 : (j : Int) < ((j + n + 1 : Nat) : Int) := by omega
 have i2 : ((j + n + 1 : Nat) : Int) ≤ (U.length : Int) := by omega
 refine ⟨G, _, bb, r, by rw [ea, eb, ec, ed, ef]; exact hdig, hGl, ?_, hb1, hrl2, hrw, sj, hz, rfl, lb.1, fun h => ⟨(lb.2 h).1, r', ?_, hrl', hrw', (lb.2 h).2⟩⟩
 ·unfold nat_number_lessAt.f
  rw [if_pos (Int.natCast_nonneg _), if_pos i1, if_pos i2, Int.toNat_natCast, Int.toNat_natCast, hless, bind_s]
 ·obtain ⟨v1, v2, v3⟩ := view_again (U.take j) r (U.drop (j + n + 1)) j (j + n + 1) (by rw [List.length_take]; omega) (by omega)
  have i3 : ((j + n + 1 : Nat) : Int) ≤ ((U.take j ++ r ++ U.drop (j + n + 1)).length : Int) := by
   rw [List.length_append, List.length_append, List.length_take, List.length_drop]; omega
  unfold nat_number_backAt.f
  rw [if_pos (Int.natCast_nonneg _), if_pos i1, if_pos i3, Int.toNat_natCast, Int.toNat_natCast, v1, v2, v3, hback, bind_s]
theorem div_loop (d : List Int) (hd : Ws d) (n s : Nat) (hn : 2 ≤ n) (hl : d.length = n) (htop : 9223372036854775808 ≤ (d.getD (n - 1) 0).toNat) (hs : s < 64) (L : Nat) (hL : L < 35184372088832) (U0 : Nat) (c : Nat) : ∀ (k : Nat) (U q : List Int), c + n ≤ L → c ≤ q.length → U.length = L → Ws U → Ws q → q.length < 35184372088832 → c + 4 * L + q.length + 300 < k →
  val (U.drop c) < val d → val U + val d * (18446744073709551616 ^ c * val (q.drop c)) = U0 →
  nat_number_div.l0 k s d U n q ((c : Int) - 1) = some (ofN (U0 / val d), ofN (U0 % val d / 2 ^ s)) := by
 induction c with
 | zero =>
  intro k U q hc hcq hUl hU hq nq hk hlt hv
  obtain ⟨k, rfl⟩ : ∃ m, k = m + 1 := ⟨k - 1, by omega⟩
  rw [List.drop_zero] at hlt
  rw [List.drop_zero, Nat.pow_zero, Nat.one_mul] at hv
  have hVp : 0 < val d := by omega
  obtain ⟨h1, h2⟩ := div_unique (a := U0) (d := val d) (q := val q) (r := val U) (by omega) hlt
  have hVn : val d < 18446744073709551616 ^ n := by rw [← hl]; exact val_lt hd
  have hz := val_take_drop U n (by omega)
  have hUn : val (U.take n) = val U := by
   rcases Nat.eq_zero_or_pos (val (U.drop n)) with h | h
   ·rw [h] at hz; omega
   ·have := Nat.le_mul_of_pos_right (18446744073709551616 ^ n) h
    omega
  have i1 : (n : Int) ≤ (U.length : Int) := by omega
  have e0 : ¬ (((0 : Nat) : Int) - 1 ≥ 0) := by omega
  have l1 : (ofN (val U)).length ≤ U.length := (ofN_len _ _).2 (val_lt hU)
  have f1 := norm_eq _ (U.take n) k rfl (ws_take hU n) (by rw [List.length_take]; omega) (by rw [List.length_take]; omega)
  rw [hUn] at f1
  have f2 := nshr_eq (ofN (val U)) s k (ws_ofN _) (by omega) (by omega) (fun x => by rw [val_ofN] at x; exact ofN_ne.2 x) (by omega)
  rw [val_ofN] at f2
  have f3 := norm_eq _ q k rfl hq (by omega) (by omega)
  simp only [nat_number_div.l0]
  rw [if_neg e0, if_pos (Int.natCast_nonneg _), if_pos i1, Int.toNat_natCast, f1, bind_s, f2, bind_s, f3, bind_s, h1, h2]
 | succ j ih =>
  intro k U q hc hcq hUl hU hq nq hk hlt hv
  obtain ⟨k, rfl⟩ : ∃ m, k = m + 1 := ⟨k - 1, by omega⟩
  obtain ⟨G, Q, b, r, s1, s2, s3, s4, s5, s6, s7, s8, s9, s10, s11⟩ := digit_step U d hU hd n j k hn hl (by omega) (by omega) htop hlt (by omega)
  have e0 : ((j + 1 : Nat) : Int) - 1 = (j : Int) := by omega
  have b0 : (j : Int) ≥ 0 := by omega
  have w1 : j + n < 4611686018427387904 := by omega
  have q1 : j < q.length := by omega
  have c1 : ((j + n : Nat) : Int) < (U.length : Int) := by omega
  have c2 : ((j + n - 1 : Nat) : Int) < (U.length : Int) := by omega
  have c3 : ((j + n - 2 : Nat) : Int) < (U.length : Int) := by omega
  have c4 : ((n - 1 : Nat) : Int) < (d.length : Int) := by omega
  have c5 : ((n - 2 : Nat) : Int) < (d.length : Int) := by omega
  have c6 : (j : Int) ≤ ((j + n + 1 : Nat) : Int) := by omega
  have c7 : ((j + n + 1 : Nat) : Int) ≤ (U.length : Int) := by omega
  have c8 : (j : Int) < (q.length : Int) := by omega
  have hVp : 0 < val d := by omega
  have split := view_split U j (j + n + 1) (by omega) (by omega)
  have hAl : (U.take j).length = j := by rw [List.length_take]; omega
  have wl : ((U.take (j + n + 1)).drop j).length = n + 1 := by rw [List.length_drop, List.length_take]; omega
  have wR : Ws (U.drop (j + n + 1)) := ws_drop hU _
  have wA : Ws (U.take j) := ws_take hU _
  have hdm := Nat.div_add_mod (val ((U.take (j + n + 1)).drop j)) (val d)
  rw [← s9, Nat.mul_comm] at hdm
  have vU : val U = val (U.take j) + 18446744073709551616 ^ j * val ((U.take (j + n + 1)).drop j) := by
   have := val_take_drop U j (by omega)
   rw [s7] at this; exact this
  have hm : val ((U.take (j + n + 1)).drop j) % val d < val d := Nat.mod_lt _ hVp
  -- what the next round is handed
  have go : ∀ (X : List Int) (g : Nat), g = Q → X.length = n + 1 → Ws X → val X = val ((U.take (j + n + 1)).drop j) % val d → Q < 18446744073709551616 →
    nat_number_div.l0 k s d (U.take j ++ X ++ U.drop (j + n + 1)) n (q.set j (g : Int)) ((j : Int) - 1) = some (ofN (U0 / val d), ofN (U0 % val d / 2 ^ s)) := by
   intro X g hg hX wX vX hQ
   subst hg
   have hlX : (U.take j ++ X ++ U.drop (j + n + 1)).length = L := by
    rw [List.length_append, List.length_append, hAl, hX, List.length_drop]; omega
   have dX : (U.take j ++ X ++ U.drop (j + n + 1)).drop j = X ++ U.drop (j + n + 1) := by
    have := List.drop_left (l₁ := U.take j) (l₂ := X ++ U.drop (j + n + 1))
    rw [hAl] at this
    rw [List.append_assoc]; exact this
   have vX2 : val (X ++ U.drop (j + n + 1)) = val X := by rw [val_append, s8]; omega
   refine ih k _ _ (by omega) (by rw [List.length_set]; omega) hlX (ws_append.2 ⟨ws_append.2 ⟨wA, wX⟩, wR⟩) (ws_set hq _ (Int.natCast_nonneg _) (Int.ofNat_lt.2 hQ)) (by rw [List.length_set]; exact nq) (by rw [List.length_set]; omega) (by rw [dX, vX2, vX]; exact hm) ?_
   have vN : val (U.take j ++ X ++ U.drop (j + n + 1)) = val (U.take j) + 18446744073709551616 ^ j * val X := by
    rw [List.append_assoc, val_append, vX2, hAl]
   rw [vN, vX, val_drop (q.set j _) j (by rw [List.length_set]; exact q1), drop_set, Nm.getD_set_eq _ _ _ q1, Int.toNat_natCast, ← hv, vU, Nat.pow_succ]
   exact step_sum hdm.symm
  have w2 : wrap64 ((j : Int) + (n : Int)) = ((j + n : Nat) : Int) := by rw [wrapS (by omega) (by omega)]; omega
  have w3 : wrap64 (((j + n : Nat) : Int) - 1) = ((j + n - 1 : Nat) : Int) := by clear w2; rw [wrapS (by omega) (by omega)]; omega
  have w4 : wrap64 (((j + n : Nat) : Int) - 2) = ((j + n - 2 : Nat) : Int) := by clear w2 w3; rw [wrapS (by omega) (by omega)]; omega
  have w5 : wrap64 ((n : Int) - 1) = ((n - 1 : Nat) : Int) := by clear w2 w3 w4; rw [wrapS (by omega) (by omega)]; omega
  have w6 : wrap64 ((n : Int) - 2) = ((n - 2 : Nat) : Int) := by clear w2 w3 w4 w5; rw [wrapS (by omega) (by omega)]; omega
  have w7 : wrap64 ((j : Int) - 1) = (j : Int) - 1 := by clear w2 w3 w4 w5 w6; exact wrap_pred (by omega)
  rw [e0]
  simp only [nat_number_div.l0]
  rw [if_pos b0, w2, w3, w4, w5, w6, w7, wrap_succ w1, if_pos (Int.natCast_nonneg _), if_pos c1, if_pos (Int.natCast_nonneg _), if_pos c2, if_pos (Int.natCast_nonneg _), if_pos c3, if_pos (Int.natCast_nonneg _), if_pos c4, if_pos (Int.natCast_nonneg _), if_pos c5, rd_nat, rd_nat, rd_nat, rd_nat, rd_nat, s1, bind_s, if_pos (Int.natCast_nonneg _), if_pos c6, if_pos c7, s3, bind_s, Int.toNat_natCast]
  clear w2 w3 w4 w5 w6 w7
  by_cases hb : b = 0
  ·obtain ⟨t1, t2⟩ := s10 hb
   have hbb : decide (b > 0) = false := decide_eq_false (by omega)
   dsimp only
   rw [hbb, if_neg Bool.false_ne_true, if_pos c8]
   exact go r G t1 s5 s6 t2 (by omega)
  ·obtain ⟨t1, r', t2, t3, t4, t5⟩ := s11 (by omega)
   have hbb : decide (b > 0) = true := decide_eq_true (by omega)
   have hdec : IntKind.u64.wrap ((G : Int) - 1) = ((G - 1 : Nat) : Int) := wrap_dec (by omega) s2
   dsimp only
   rw [hbb, if_pos rfl, t2, bind_s, if_pos c8, hdec]
   exact go r' (G - 1) (by omega) t3 t4 t5 (by omega)
end Go.Proofs.Ytdbhednhhmbooaa.Nf

namespace Go.Proofs.Ytdbhednhhmbooaa.Nf
open Go.RowKit Go.Proofs.Ytdbhednhhmbooaa.PAll Go.Proofs.YtdbhednhhmbooaaW.PrintWords Go.Proofs.YtdbhednhhmbooaaW.PrintLast Go.Proofs.YtdbhednhhmbooaaW.PrintMore Go.Proofs.Ytdbhednhhmbooaa.Nm
set_option linter.unusedVariables false
set_option linter.unusedSimpArgs false
theorem shl_top {v : Nat} (h : v ≠ 0) : ∃ m w : Nat, (ofN v).length = m + 1 ∧ (ofN v).getD m 0 = (w : Int) ∧ w < 18446744073709551616 ∧ w ≠ 0 ∧ 64 - bl w < 64 ∧ (ofN (v * 2 ^ (64 - bl w))).length = m + 1 ∧ 9223372036854775808 ≤ ((ofN (v * 2 ^ (64 - bl w))).getD m 0).toNat := by
 obtain ⟨m, w, h1, h2, h3, h4, h5⟩ := len_bl h
 have c := bl_word h4
 have c0 := bl_ne h3
 have hp : 0 < 2 ^ (64 - bl w) := Nat.pow_pos (by decide)
 have hv : v * 2 ^ (64 - bl w) ≠ 0 := by
  have := Nat.mul_pos (show 0 < v by omega) hp
  omega
 obtain ⟨m', w', g1, g2, g3, g4, g5⟩ := len_bl hv
 rw [bl_shl h] at g2
 have d := bl_word g4
 have d0 := bl_ne g3
 have em : m' = m := by omega
 subst em
 have ew : bl w' = 64 := by omega
 have := bl_le g3
 rw [ew] at this
 refine ⟨m', w, h1, h5, h4, h3, by omega, g1, ?_⟩
 rw [g5, Int.toNat_natCast]
 have e : (2 : Nat) ^ 64 = 18446744073709551616 := by decide
 rw [e] at this
 omega
theorem top_pow {d : List Int} (hd : Ws d) (m : Nat) (hl : d.length = m + 1) (h : 9223372036854775808 ≤ (d.getD m 0).toNat) : 18446744073709551616 ^ m * 9223372036854775808 ≤ val d := by
 have s2 := val_take_succ d m (by omega)
 rw [val_take_ge d (m + 1) (by omega)] at s2
 have := Nat.mul_le_mul_left (18446744073709551616 ^ m) h
 omega
theorem div_start {P Q V a s : Nat} (ha : a < P * Q) (hs : 2 ^ s ≤ 9223372036854775808) (hV : Q * 9223372036854775808 ≤ V) : a * 2 ^ s < P * V := by
 have h1 : a * 2 ^ s ≤ a * 9223372036854775808 := Nat.mul_le_mul_left _ hs
 have h2 : a * 9223372036854775808 < P * Q * 9223372036854775808 := Nat.mul_lt_mul_of_pos_right ha (by decide)
 have h3 : P * (Q * 9223372036854775808) ≤ P * V := Nat.mul_le_mul_left _ hV
 rw [← Nat.mul_assoc] at h3
 omega
theorem div_eq (a b k : Nat) (hb : b ≠ 0) (la : (ofN a).length ≤ 1024) (lb : (ofN b).length ≤ 1024) (hk : 10000 < k) : nat_number_div.f k (ofN a) (ofN b) = some (ofN (a / b), ofN (a % b)) := by
 unfold nat_number_div.f
 rw [cmp_eq a b k (by omega) (by omega), bind_s]
 by_cases h : a < b
 ·have e : cmpI a b = -1 := by unfold cmpI; rw [if_pos h]
  rw [e, if_pos (by decide), Nat.div_eq_of_lt h, Nat.mod_eq_of_lt h, ofN_zero]
 ·have e : ¬ cmpI a b < 0 := by
   unfold cmpI; rw [if_neg h]; split <;> decide
  rw [if_neg e]
  obtain ⟨m, w, h1, h2, h3, h4, h5, h6, h7⟩ := shl_top hb
  by_cases z : m = 0
  ·subst z
   have hbw : b = w := by
    have := val_take_succ (ofN b) 0 (by omega)
    rw [val_take_ge _ _ (by omega), val_ofN, h2] at this
    simpa [val] using this
   have f1 := short_eq (ofN a) (ws_ofN a) w k (by omega) h3 (by omega) (by omega)
   rw [val_ofN] at f1
   have hm : a % w < w := Nat.mod_lt _ (by omega)
   have f2 := norm_eq 1 [((a % w : Nat) : Int)] k rfl (ws_cons.2 ⟨by omega, ws_nil⟩) (by decide) (by omega)
   have f3 : val [((a % w : Nat) : Int)] = a % w := by rw [val_cons, val_nil, Int.toNat_natCast]; omega
   have c1 : ((ofN b).length : Int) = 1 := by omega
   have c2 : 0 < ((ofN b).length : Int) := by omega
   have r0 : rd (ofN b) 0 = (w : Int) := (rd_nat (ofN b) 0).trans h2
   rw [if_pos c1, if_pos c2, r0, f1, bind_s, f2, bind_s, f3, hbw]
  ·have c1 : ¬ ((ofN b).length : Int) = 1 := by omega
   have hlen := ofN_len_le (show b ≤ a by omega)
   obtain ⟨A, hA⟩ : ∃ A, (ofN a).length = A := ⟨_, rfl⟩
   have c2 : (m : Int) < ((ofN b).length : Int) := by omega
   have f0 := Lead64_eq k w h3 (by omega)
   have hne : ofN b ≠ [] := fun x => hb (ofN_ne.1 x)
   have hna : ofN a ≠ [] := fun x => by rw [ofN_ne] at x; omega
   generalize 64 - bl w = s at *
   have s64 : s / 64 = 0 := by omega
   have f1 := nshl_eq (ofN b) s k (ws_ofN b) (by omega) hne (by omega) (by omega)
   have f2 := nshl_eq (ofN a) s k (ws_ofN a) (by omega) hna (by omega) (by omega)
   rw [val_ofN] at f1 f2
   have hp : 0 < 2 ^ s := Nat.pow_pos (by decide)
   have hps : 2 ^ s ≤ 9223372036854775808 := by
    have : 2 ^ s ≤ 2 ^ 63 := Nat.pow_le_pow_right (by decide) (by omega)
    exact this
   -- how long the shifted number is
   have haB : a < 18446744073709551616 ^ A := by rw [← hA]; exact (ofN_len a _).1 (Nat.le_refl _)
   have lT : (ofN (a * 2 ^ s)).length ≤ A + 1 := by
    rw [ofN_len, Nat.pow_succ]
    have := div_start (P := 1) (Q := 18446744073709551616 ^ A) (V := 18446744073709551616 ^ A * 9223372036854775808) (a := a) (s := s) (by omega) hps (Nat.le_refl _)
    omega
   have hd := ws_ofN (b * 2 ^ s)
   have tp := top_pow hd m h6 h7
   rw [val_ofN] at tp
   have c0 : A - m + (m + 1) = A + 1 := by omega
   have cA : A + 1 ≤ 35184372088832 := by omega
   have cB : A - m ≤ 35184372088832 := by omega
   have c3 : ((ofN b).length : Int) - 1 = (m : Int) := by omega
   obtain ⟨T, hT⟩ : ∃ T, ofN (a * 2 ^ s) = T := ⟨_, rfl⟩
   have mn : min T.length (List.replicate (A + 1) (0 : Int)).length = T.length := by rw [List.length_replicate, ← hT]; omega
   have hU : (T.take T.length ++ (List.replicate (A + 1) (0 : Int)).drop T.length) = T ++ List.replicate (A + 1 - T.length) 0 := by rw [List.take_length, List.drop_replicate]
   have lT' : T.length ≤ A + 1 := by rw [← hT]; exact lT
   have lU : (T ++ List.replicate (A + 1 - T.length) (0 : Int)).length = A + 1 := by simp; omega
   have wT : Ws T := by rw [← hT]; exact ws_ofN _
   have wU : Ws (T ++ List.replicate (A + 1 - T.length) (0 : Int)) := ws_append.2 ⟨wT, ws_replicate _⟩
   have vU : val (T ++ List.replicate (A + 1 - T.length) (0 : Int)) = a * 2 ^ s := by rw [val_append, val_replicate, ← hT, val_ofN]; simp
   have hdl : 2 ≤ m + 1 := by omega
   have lm : m + 1 ≤ A := by omega
   have start : val ((T ++ List.replicate (A + 1 - T.length) (0 : Int)).drop (A - m)) < val (ofN (b * 2 ^ s)) := by
    have sp := val_take_drop (T ++ List.replicate (A + 1 - T.length) (0 : Int)) (A - m) (by rw [lU]; omega)
    rw [vU] at sp
    rw [val_ofN]
    have eP : 18446744073709551616 ^ A = 18446744073709551616 ^ (A - m) * 18446744073709551616 ^ m := by rw [← Nat.pow_add]; congr 1; omega
    have := div_start (P := 18446744073709551616 ^ (A - m)) (Q := 18446744073709551616 ^ m) (V := b * 2 ^ s) (a := a) (s := s) (by rw [← eP]; exact haB) hps tp
    have g : 18446744073709551616 ^ (A - m) * val ((T ++ List.replicate (A + 1 - T.length) (0 : Int)).drop (A - m)) < 18446744073709551616 ^ (A - m) * (b * 2 ^ s) := by
     omega
    exact Nat.lt_of_mul_lt_mul_left g
   have key := div_loop (ofN (b * 2 ^ s)) hd (m + 1) s hdl h6 h7 h5 (A + 1) (by omega) (a * 2 ^ s) (A - m) k (T ++ List.replicate (A + 1 - T.length) 0) (List.replicate (A - m) 0) (by omega) (by simp) lU wU (ws_replicate _) (by simp; omega) (by simp; omega) start (by rw [vU, List.drop_eq_nil_of_le (by simp)]; simp [val])
   obtain ⟨b1, b2⟩ := shift_both (v := a) (s := s) (show 0 < b by omega)
   rw [val_ofN, b1, b2] at key
   have e1 : wrap64 (((ofN b).length : Int) - 1) = (m : Int) := by rw [wrapS (by omega) (by omega)]; omega
   have wrA : wrap64 (((ofN a).length : Int) + 1) = ((A + 1 : Nat) : Int) := by rw [hA]; exact wrap_succ (by omega)
   have wrB : wrap64 (((ofN a).length : Int) - ((ofN (b * 2 ^ s)).length : Int)) = ((A - m : Nat) : Int) - 1 := by clear e1 wrA; rw [wrapS (by omega) (by omega)]; omega
   have wrC : wrap64 (((A - m : Nat) : Int) - 1 + 1) = ((A - m : Nat) : Int) := by clear e1 wrA wrB; rw [wrapS (by omega) (by omega)]; omega
   rw [if_neg c1, e1, if_pos (Int.natCast_nonneg _), if_pos c2, rd_nat, h2, f0, bind_s, f1, bind_s, wrA, if_pos (Int.natCast_nonneg _), Int.toNat_natCast, if_pos cA, bind_s, f2, bind_s, wrB, wrC, if_pos (Int.natCast_nonneg _), Int.toNat_natCast, if_pos cB, hT, mn, hU, h6]
   exact key
end Go.Proofs.Ytdbhednhhmbooaa.Nf

namespace Go.Proofs.Ytdbhednhhmbooaa.Nf
open Go.RowKit Go.Proofs.Ytdbhednhhmbooaa.PAll Go.Proofs.YtdbhednhhmbooaaW.PrintWords Go.Proofs.YtdbhednhhmbooaaW.PrintLast Go.Proofs.YtdbhednhhmbooaaW.PrintMore Go.Proofs.Ytdbhednhhmbooaa.Nm
set_option linter.unusedVariables false
set_option linter.unusedSimpArgs false
theorem room_bit {w s : Nat} (hs : s < 64) (hw : w < 18446744073709551616) (h : w % 2 ^ (s + 1) = 0) : w + 2 ^ s < 18446744073709551616 := by
 have e := pow_split (show s + 1 ≤ 64 by omega)
 have hp : 0 < 2 ^ (s + 1) := Nat.pow_pos (by decide)
 have hd := Nat.div_add_mod w (2 ^ (s + 1))
 rw [h, Nat.add_zero] at hd
 have hlt : w / 2 ^ (s + 1) < 2 ^ (64 - (s + 1)) := by rw [Nat.div_lt_iff_lt_mul hp, Nat.mul_comm, e]; exact hw
 have hm := Nat.mul_le_mul_left (2 ^ (s + 1)) hlt
 rw [e, Nat.mul_succ, hd] at hm
 have : 2 ^ (s + 1) = 2 ^ s * 2 := Nat.pow_succ 2 s
 have h2 : 0 < 2 ^ s := Nat.pow_pos (by decide)
 omega
theorem set_bit (q : List Int) (hq : Ws q) (i : Nat) (hi : i / 64 < q.length) (hz : val q % 2 ^ (i + 1) = 0) :
  (q.getD (i / 64) 0).toNat + 2 ^ (i % 64) < 18446744073709551616 ∧ val (q.set (i / 64) (((q.getD (i / 64) 0).toNat + 2 ^ (i % 64) : Nat) : Int)) = val q + 2 ^ i := by
 have hs : i % 64 < 64 := by omega
 have ei : i = 64 * (i / 64) + i % 64 := by omega
 have e2 : 2 ^ (i + 1) = 18446744073709551616 ^ (i / 64) * 2 ^ (i % 64 + 1) := by
  have : i + 1 = 64 * (i / 64) + (i % 64 + 1) := by omega
  rw [this, Nat.pow_add, Nat.pow_mul]
 have e1 : 2 ^ i = 18446744073709551616 ^ (i / 64) * 2 ^ (i % 64) := pow_parts i
 have ht := val_take_lt hq (i / 64)
 obtain ⟨_, h2⟩ := shr_all (S := 2 ^ (i % 64 + 1)) ht (val_take_drop q (i / 64) (Nat.le_of_lt hi))
 rw [← e2, hz, val_mod _ (by omega), getD_drop, Nat.zero_add] at h2
 have hp := pow_pos (i / 64)
 have hw : (q.getD (i / 64) 0).toNat % 2 ^ (i % 64 + 1) = 0 := by
  rcases Nat.eq_zero_or_pos ((q.getD (i / 64) 0).toNat % 2 ^ (i % 64 + 1)) with h | h
  ·exact h
  ·have := Nat.mul_pos hp h; omega
 obtain ⟨p0, p1⟩ := ws_get hq (i / 64)
 refine ⟨room_bit hs (by omega) hw, ?_⟩
 have vs := val_set q (i / 64) q.length (((q.getD (i / 64) 0).toNat + 2 ^ (i % 64) : Nat) : Int) hi (Nat.le_refl _)
 rw [val_take_ge _ _ (by rw [List.length_set]; exact Nat.le_refl _), val_take_ge q _ (Nat.le_refl _), Int.toNat_natCast, Nat.mul_add, ← e1] at vs
 omega
theorem mod_sum {a p : Nat} (h : a % (p * 2) = 0) : (a + p) % p = 0 ∧ a % p = 0 := by
 have : a % p = 0 := by
  have := Nat.mod_mul_right_mod a p 2
  rw [h, Nat.zero_mod] at this; exact this.symm
 exact ⟨by rw [Nat.add_mod_right]; exact this, this⟩
theorem tdiv64 {i : Nat} (h : i < 4611686018427387904) : wrap64 (Int.tdiv (i : Int) 64) = ((i / 64 : Nat) : Int) := by
 rw [Int.tdiv_eq_ediv_of_nonneg (by omega), wrapS (by omega) (by omega)]; omega
theorem tmod64 {i : Nat} (h : i < 4611686018427387904) : IntKind.u64.wrap (Int.tmod (i : Int) 64) = ((i % 64 : Nat) : Int) := by
 rw [Int.tmod_eq_emod_of_nonneg (by omega), IntKind.wrap_u64]; omega
theorem rdiv_loop (a v : Nat) (hv : v ≠ 0) (N : Nat) (hN : N ≤ 1025) (c : Nat) : ∀ (k R : Nat) (q : List Int), c ≤ 64 * N → q.length = N → Ws q → R ≤ a → (ofN a).length ≤ 1024 → (ofN v).length ≤ 1024 → a = R + v * val q → R < v * 2 ^ c → val q % 2 ^ c = 0 → c + 20000 < k →
  ulpref03_Div.l0 k q (ofN R) (ofN (v * 2 ^ c / 2)) ((c : Int) - 1) = some (ofN (a / v), ofN (a % v)) := by
 induction c with
 | zero =>
  intro k R q hc hql hq hRa la lv ha hR hz hk
  obtain ⟨k, rfl⟩ : ∃ m, k = m + 1 := ⟨k - 1, by omega⟩
  have e0 : ¬ (((0 : Nat) : Int) - 1 ≥ 0) := by omega
  rw [Nat.pow_zero, Nat.mul_one] at hR
  obtain ⟨h1, h2⟩ := div_unique (a := a) (d := v) (q := val q) (r := R) (by omega) hR
  simp only [ulpref03_Div.l0]
  rw [if_neg e0, rnorm_eq q k hq (by omega) (by omega), bind_s, h1, h2]
 | succ i ih =>
  intro k R q hc hql hq hRa la lv ha hR hz hk
  obtain ⟨k, rfl⟩ : ∃ m, k = m + 1 := ⟨k - 1, by omega⟩
  have e0 : ((i + 1 : Nat) : Int) - 1 = (i : Int) := by omega
  have b0 : (i : Int) ≥ 0 := by omega
  have hi : i / 64 < q.length := by omega
  have ep : v * 2 ^ (i + 1) / 2 = v * 2 ^ i := by rw [Nat.pow_succ, ← Nat.mul_assoc, Nat.mul_div_cancel _ (by decide)]
  have ep2 : v * 2 ^ (i + 1) = v * 2 ^ i + v * 2 ^ i := by rw [Nat.pow_succ, ← Nat.mul_assoc]; omega
  have lR : (ofN R).length ≤ 1024 := Nat.le_trans (ofN_len_le hRa) la
  have vlt := (ofN_len v 1024).1 lv
  have lV : (ofN (v * 2 ^ i)).length ≤ 2060 := by
   have key : ∀ x j m n K : Nat, (ofN x).length ≤ m → j ≤ 64 * n → m + n + 1 ≤ K → (ofN (x * 2 ^ j)).length ≤ K := fun x j m n K hx hj hK => by
    rw [ofN_len] at hx ⊢
    have e : (18446744073709551616 : Nat) ^ n = 2 ^ (64 * n) := by rw [Nat.pow_mul]
    have a2 : 2 ^ j ≤ 18446744073709551616 ^ n := by rw [e]; exact Nat.pow_le_pow_right (by decide) hj
    have a1 : x * 2 ^ j ≤ 18446744073709551616 ^ m * 18446744073709551616 ^ n := Nat.mul_le_mul (Nat.le_of_lt hx) a2
    rw [← Nat.pow_add] at a1
    have hp := pow_pos (m + n)
    have a3 : 18446744073709551616 ^ (m + n + 1) ≤ 18446744073709551616 ^ K := Nat.pow_le_pow_right (by decide) hK
    have a4 : 18446744073709551616 ^ (m + n) < 18446744073709551616 ^ (m + n + 1) := by rw [Nat.pow_succ]; omega
    omega
   exact key v i 1024 1030 2060 lv (by omega) (by omega)
  have fc := rcmp_eq (ofN R) (ofN (v * 2 ^ i)) k (ws_ofN _) (ws_ofN _) (by omega) (by omega) (by omega)
  rw [val_ofN, val_ofN] at fc
  have fs := rshr_eq (ofN (v * 2 ^ i)) 1 k (ws_ofN _) (by decide) (by omega) (by omega)
  rw [val_ofN, Nat.pow_one] at fs
  have fs' : ulpref03_Shr.f k (ofN (v * 2 ^ i)) 1 = some (ofN (v * 2 ^ i / 2), decide (v * 2 ^ i % 2 ≠ 0)) := fs
  have hz2 : val q % (2 ^ i * 2) = 0 := by rw [← Nat.pow_succ]; exact hz
  obtain ⟨z1, z2⟩ := mod_sum hz2
  have hi2 : i < 4611686018427387904 := by omega
  rw [e0, ep]
  simp only [ulpref03_Div.l0]
  rw [if_pos b0, fc, bind_s]
  by_cases h : v * 2 ^ i ≤ R
  ·have hcmp : cmpI R (v * 2 ^ i) ≥ 0 := by
    unfold cmpI; rw [if_neg (by omega)]; split <;> decide
   have fsub := rsub_eq (ofN R) (ofN (v * 2 ^ i)) k (ws_ofN _) (ws_ofN _) (by omega) (by omega) (by rw [val_ofN, val_ofN]; exact h) (by omega)
   rw [val_ofN, val_ofN] at fsub
   obtain ⟨sb1, sb2⟩ := set_bit q hq i hi hz
   obtain ⟨p0, p1⟩ := ws_get hq (i / 64)
   have ew := asNat p0
   have d1 : ((i / 64 : Nat) : Int) < (q.length : Int) := by omega
   have hs : i % 64 ≤ 64 := by omega
   have sh : shl .u64 1 ((i % 64 : Nat) : Int) = ((2 ^ (i % 64) : Nat) : Int) := by
    have := shl_eq 1 (i % 64) hs
    rw [Nat.one_mul, Nat.mod_eq_of_lt (Nat.pow_lt_pow_right (by decide) (by omega) : 2 ^ (i % 64) < 2 ^ 64)] at this
    exact this
   rw [if_pos hcmp, fsub, bind_s, tdiv64 hi2, tmod64 hi2, if_pos (Int.natCast_nonneg _), if_pos d1, if_pos (Int.natCast_nonneg _), fs', bind_s, rd_nat, sh, wrap_pred hi2, Int.toNat_natCast]
   have ww : IntKind.u64.wrap (q.getD (i / 64) 0 + ((2 ^ (i % 64) : Nat) : Int)) = (((q.getD (i / 64) 0).toNat + 2 ^ (i % 64) : Nat) : Int) := by
    conv => lhs; rw [ew]
    exact wrapN2 sb1
   rw [ww]
   clear ww
   refine ih k (R - v * 2 ^ i) _ (by omega) (by rw [List.length_set]; exact hql) (ws_set hq _ (Int.natCast_nonneg _) (Int.ofNat_lt.2 sb1)) (by omega) la lv ?_ (by omega) (by rw [sb2]; exact z1) (by omega)
   rw [sb2, Nat.mul_add]; omega
  ·have hcmp : ¬ cmpI R (v * 2 ^ i) ≥ 0 := by
    unfold cmpI; rw [if_pos (by omega)]; decide
   rw [if_neg hcmp, fs', bind_s, wrap_pred hi2]
   exact ih k R q (by omega) hql hq hRa la lv ha (by omega) z2 (by omega)
end Go.Proofs.Ytdbhednhhmbooaa.Nf

namespace Go.Proofs.Ytdbhednhhmbooaa.Nf
open Go.RowKit Go.Proofs.Ytdbhednhhmbooaa.PAll Go.Proofs.YtdbhednhhmbooaaW.PrintWords Go.Proofs.YtdbhednhhmbooaaW.PrintLast Go.Proofs.YtdbhednhhmbooaaW.PrintMore Go.Proofs.Ytdbhednhhmbooaa.Nm
set_option linter.unusedVariables false
set_option linter.unusedSimpArgs false
theorem rDiv_eq (a b : List Int) (k : Nat) (ha : Ws a) (hb : Ws b) (h0 : val b ≠ 0) (la : val a < big) (lb : val b < big) (na : a.length < 17592186000000) (nb : b.length < 17592186000000) (hk : 4 * (a.length + b.length) + 200000 < k) : ulpref03_Div.f k a b = some (ofN (val a / val b), ofN (val a % val b)) := by
 unfold ulpref03_Div.f
 have ba := big_lt_iff.1 la
 have bb := big_lt_iff.1 lb
 have oa := len_big la
 have ob := len_big lb
 rw [rlen_eq a k ha (by omega) (by omega), bind_s, rlen_eq b k hb (by omega) (by omega), bind_s]
 by_cases h : bl (val a) < bl (val b)
 ·have hlt : val a < val b := by
   rcases Nat.lt_or_ge (val a) (val b) with g | g
   ·exact g
   ·have := bl_mono g; omega
  have f := rnorm_eq a k ha (by omega) (by omega)
  have w : wrap64 (((bl (val a) : Nat) : Int) - ((bl (val b) : Nat) : Int)) < 0 := by rw [wrapS (by omega) (by omega)]; omega
  rw [if_pos w, f, bind_s, Nat.div_eq_of_lt hlt, Nat.mod_eq_of_lt hlt, ofN_zero]
 ·obtain ⟨n, hn⟩ : ∃ n, n = bl (val a) - bl (val b) := ⟨_, rfl⟩
  have hn2 : n < 4611686018427387904 := by omega
  have f1 := rnorm_eq a k ha (by omega) (by omega)
  have f2 := rshl_eq b n k hb hn2 (by omega) (by omega)
  have c1 : ¬ ((n : Nat) : Int) < 0 := by omega
  have c2 : n / 64 + 1 ≤ 35184372088832 := by omega
  have c3 : n / 64 < 4611686018427387904 := by omega
  have e3 : val b * 2 ^ (n + 1) / 2 = val b * 2 ^ n := by rw [Nat.pow_succ, ← Nat.mul_assoc, Nat.mul_div_cancel _ (by decide)]
  have hlt : val a < val b * 2 ^ (n + 1) := by
   rcases Nat.lt_or_ge (val a) (val b * 2 ^ (n + 1)) with g | g
   ·exact g
   ·have := bl_mono g
    rw [bl_shl h0] at this; omega
  have key := rdiv_loop (val a) (val b) h0 (n / 64 + 1) (by omega) (n + 1) k (val a) (List.replicate (n / 64 + 1) 0) (by omega) (by simp) (ws_replicate _) (Nat.le_refl _) oa ob (by rw [val_replicate]; omega) hlt (by rw [val_replicate]; exact Nat.zero_mod _) (by omega)
  have e4 : ((n + 1 : Nat) : Int) - 1 = (n : Int) := by omega
  rw [e3, e4] at key
  have w : wrap64 (((bl (val a) : Nat) : Int) - ((bl (val b) : Nat) : Int)) = (n : Int) := by rw [wrapS (by omega) (by omega)]; omega
  rw [w, if_neg c1, tdiv64 hn2, wrap_succ c3, if_pos (Int.natCast_nonneg _), Int.toNat_natCast, if_pos c2, f1, bind_s, f2, bind_s]
  exact key
def quoS (a b : Nat) : List Int × List Int × Int := if a < big ∧ b < big then (if b = 0 then ([], [], 30) else (ofN (a / b), ofN (a % b), 0)) else ([], [], 3)
def proS (a b : Nat) : List Int × Int := if a < big ∧ b < big then (if a * b < big then (ofN (a * b), 0) else ([], 3)) else ([], 3)
theorem Div_eq (a b : List Int) (k : Nat) (ha : Ws a) (hb : Ws b) (na : a.length < 17592186044000) (nb : b.length < 17592186044000) (hk : a.length + b.length + 20000 < k) : nat_Div.f k a b = some (quoS (val a) (val b)) := by
 unfold nat_Div.f quoS
 rw [both_eq a b k ha hb (by omega) (by omega) (by omega) (by omega), bind_s]
 by_cases h : val a < big ∧ val b < big
 ·have la := len_big h.1
  have lb := len_big h.2
  simp only [if_pos h]
  rw [if_pos trivial]
  by_cases z : val b = 0
  ·have z' := ofN_zero_iff.2 z
   rw [if_pos z, if_pos (by omega)]
  ·have z' : (ofN (val b)).length ≠ 0 := fun x => z (ofN_zero_iff.1 x)
   have l1 := Nat.le_trans (ofN_len_le (Nat.div_le_self (val a) (val b))) la
   have l2 := Nat.le_trans (ofN_len_le (Nat.mod_le (val a) (val b))) la
   have o1 := own_eq (ofN (val a / val b)) (by omega)
   have o2 := own_eq (ofN (val a % val b)) (by omega)
   rw [if_neg z, if_neg (by omega), div_eq _ _ k z la lb (by omega), bind_s]
   dsimp only
   rw [o1, bind_s, o2, bind_s]
 ·simp only [if_neg h]
  rw [if_neg (by decide)]
theorem Mul_eq (a b : List Int) (k : Nat) (ha : Ws a) (hb : Ws b) (na : a.length < 17592186044000) (nb : b.length < 17592186044000) (hk : a.length + b.length + 2000000 < k) : nat_Mul.f k a b = some (proS (val a) (val b)) := by
 unfold nat_Mul.f proS
 rw [both_eq a b k ha hb (by omega) (by omega) (by omega) (by omega), bind_s]
 by_cases h : val a < big ∧ val b < big
 ·have la := len_big h.1
  have lb := len_big h.2
  have hm : (ofN (val a)).length * ((ofN (val b)).length + 2) ≤ 1024 * 1026 := Nat.mul_le_mul la (by omega)
  have f := nmul_eq (ofN (val a)) (ofN (val b)) k (ws_ofN _) (ws_ofN _) (by omega) (by omega)
  rw [val_ofN, val_ofN] at f
  simp only [if_pos h]
  rw [if_pos trivial, f, bind_s, answer_eq, bind_s]
 ·simp only [if_neg h]
  rw [if_neg (by decide)]
theorem rQuotient_eq (a b : List Int) (k : Nat) (ha : Ws a) (hb : Ws b) (na : a.length < 17592186000000) (nb : b.length < 17592186000000) (hk : 4 * (a.length + b.length) + 300000 < k) : ulpref03_Quotient.f k a b = some (quoS (val a) (val b)) := by
 obtain ⟨k, rfl⟩ : ∃ m, k = m + 1 := ⟨k - 1, by omega⟩
 unfold ulpref03_Quotient.f quoS
 have j3 : ulpref03_Quotient.j0 (k + 1) a b true = some ([], [], 3) := by simp only [ulpref03_Quotient.j0]; rw [if_pos trivial]
 rw [rgreat_eq a (k + 1) ha (by omega) (by omega), bind_s]
 by_cases h : val a < big
 ·rw [if_neg (by simpa using h), rgreat_eq b (k + 1) hb (by omega) (by omega), bind_s]
  by_cases g : val b < big
  ·have e : decide (¬ val b < big) = false := decide_eq_false (fun x => x g)
   rw [e, if_pos (c := val a < big ∧ val b < big) ⟨h, g⟩]
   simp only [ulpref03_Quotient.j0]
   rw [if_neg (by decide), rlen_eq b k hb (by omega) (by omega), bind_s]
   by_cases z : val b = 0
   ·rw [if_pos z, z, bl_zero]; rfl
   ·have hb0 := bl_ne z
    rw [if_neg z, if_neg (by omega), rDiv_eq a b k ha hb z h g na nb (by omega), bind_s]
  ·have e : decide (¬ val b < big) = true := decide_eq_true g
   rw [e, j3, if_neg (c := val a < big ∧ val b < big) (fun c => g c.2)]
 ·rw [if_pos (by simpa using h), j3, if_neg (c := val a < big ∧ val b < big) (fun c => h c.1)]
theorem prod_big {a b : Nat} (ha : a ≠ 0) (hb : b ≠ 0) (h : 65537 < bl a + bl b) : ¬ a * b < big := by
 intro hlt
 have c := big_lt_iff.1 hlt
 have a1 := bl_le ha
 have b1 := bl_le hb
 have a0 := bl_ne ha
 have b0 := bl_ne hb
 obtain ⟨p, hp⟩ : ∃ p, bl a = p + 1 := ⟨bl a - 1, by omega⟩
 obtain ⟨q, hq⟩ : ∃ q, bl b = q + 1 := ⟨bl b - 1, by omega⟩
 rw [hp, Nat.pow_succ] at a1
 rw [hq, Nat.pow_succ] at b1
 have m : 2 ^ p * 2 ^ q ≤ a * b := Nat.mul_le_mul (by omega) (by omega)
 rw [← Nat.pow_add] at m
 have d := bl_mono m
 have e : bl (1 * 2 ^ (p + q)) = bl 1 + (p + q) := bl_shl (by decide) _
 have e1 : bl 1 ≠ 0 := bl_ne (by decide)
 rw [Nat.one_mul] at e
 omega
theorem rProduct_eq (a b : List Int) (k : Nat) (ha : Ws a) (hb : Ws b) (na : a.length < 17592186000000) (nb : b.length < 17592186000000) (hk : 4 * (a.length + b.length) + 3000000 < k) : ulpref03_Product.f k a b = some (proS (val a) (val b)) := by
 obtain ⟨k, rfl⟩ : ∃ m, k = m + 1 := ⟨k - 1, by omega⟩
 unfold ulpref03_Product.f proS
 have j3 : ulpref03_Product.j0 (k + 1) a b true = some ([], 3) := by simp only [ulpref03_Product.j0]; rw [if_pos trivial]
 rw [rgreat_eq a (k + 1) ha (by omega) (by omega), bind_s]
 by_cases h : val a < big
 ·rw [if_neg (by simpa using h), rgreat_eq b (k + 1) hb (by omega) (by omega), bind_s]
  by_cases g : val b < big
  ·have la := len_big h
   have lb := len_big g
   have ba := big_lt_iff.1 h
   have bb := big_lt_iff.1 g
   have hm : (ofN (val a)).length * ((ofN (val b)).length + 2) ≤ 1024 * 1026 := Nat.mul_le_mul la (by omega)
   have fm := rmul_eq a b k ha hb (by omega) (by omega) (by omega) (by omega) (by omega) (by omega)
   have lm : (ofN (val a * val b)).length ≤ 2048 := by
    have key : ∀ x y m n K : Nat, (ofN x).length ≤ m → (ofN y).length ≤ n → m + n = K → (ofN (x * y)).length ≤ K := fun x y m n K hx hy hK => by
     subst hK
     rw [ofN_len] at hx hy ⊢
     rw [Nat.pow_add]; exact Nat.mul_lt_mul_of_lt_of_le hx (Nat.le_of_lt hy) (pow_pos n)
    exact key _ _ 1024 1024 2048 la lb (by omega)
   have ff := rfit_eq (val a * val b) k (by omega) (by omega)
   have jf : ulpref03_Product.j0 (k + 1) a b false = some (if val a * val b < big then (ofN (val a * val b), 0) else ([], 3)) := by
    simp only [ulpref03_Product.j0]
    rw [if_neg (by decide), fm, bind_s, ff, bind_s]
   rw [if_neg (by simpa using g), if_pos (c := val a < big ∧ val b < big) ⟨h, g⟩, rlen_eq a (k + 1) ha (by omega) (by omega), bind_s, rlen_eq b (k + 1) hb (by omega) (by omega), bind_s, bind_s, bind_s]
   have w : wrap64 (((bl (val a) : Nat) : Int) + ((bl (val b) : Nat) : Int)) = ((bl (val a) + bl (val b) : Nat) : Int) := by rw [wrapS (by omega) (by omega)]; omega
   rw [w]
   clear w
   by_cases c : 65537 < bl (val a) + bl (val b)
   ·rw [if_pos (by omega)]
    by_cases za : val a = 0
    ·have : bl (val a) = 0 := by rw [za, bl_zero]
     rw [if_neg (by omega), jf]
    ·by_cases zb : val b = 0
     ·have : bl (val b) = 0 := by rw [zb, bl_zero]
      have b0 := bl_ne za
      have e : decide (((bl (val b) : Nat) : Int) > 0) = false := decide_eq_false (by omega)
      rw [if_pos (by omega), e, jf]
     ·have a0 := bl_ne za
      have b0 := bl_ne zb
      have e : decide (((bl (val b) : Nat) : Int) > 0) = true := decide_eq_true (by omega)
      rw [if_pos (by omega), e, j3, if_neg (prod_big za zb c)]
   ·rw [if_neg (by omega), jf]
  ·rw [if_pos (by simpa using g), j3, if_neg (c := val a < big ∧ val b < big) (fun c => g c.2)]
 ·rw [if_pos (by simpa using h), j3, if_neg (c := val a < big ∧ val b < big) (fun c => h c.1)]
theorem quoS_len (a b : Nat) : (quoS a b).1.length ≤ 1024 ∧ (quoS a b).2.1.length ≤ 1024 := by
 unfold quoS
 by_cases h : a < big ∧ b < big
 ·rw [if_pos h]
  by_cases z : b = 0
  ·rw [if_pos z]; exact ⟨Nat.zero_le _, Nat.zero_le _⟩
  ·rw [if_neg z]
   exact ⟨len_big (Nat.lt_of_le_of_lt (Nat.div_le_self _ _) h.1), len_big (Nat.lt_of_le_of_lt (Nat.mod_le _ _) h.1)⟩
 ·rw [if_neg h]; exact ⟨Nat.zero_le _, Nat.zero_le _⟩
theorem proS_len (a b : Nat) : (proS a b).1.length ≤ 1024 := by
 unfold proS
 by_cases h : a < big ∧ b < big
 ·rw [if_pos h]
  by_cases g : a * b < big
  ·rw [if_pos g]; exact len_big g
  ·rw [if_neg g]; exact Nat.zero_le _
 ·rw [if_neg h]; exact Nat.zero_le _
end Go.Proofs.Ytdbhednhhmbooaa.Nf

namespace Go.Proofs.Ytdbhednhhmbooaa.Nf
open Go.RowKit Go.Proofs.Ytdbhednhhmbooaa.PAll Go.Proofs.YtdbhednhhmbooaaW.PrintWords
theorem lives_eq (k : Nat) (hk : 3000 ≤ k) : ulplaw03_lives.f k = some true :=
 at_rounds ulplaw03_lives.mono hk (by decide +kernel)
end Go.Proofs.Ytdbhednhhmbooaa.Nf

namespace Go.Proofs.Ytdbhednhhmbooaa.Pure
open Go.RowKit Go.Proofs.Ytdbhednhhmbooaa.PAll Go.Proofs.YtdbhednhhmbooaaW.PrintWords Go.Proofs.YtdbhednhhmbooaaW.PrintLast Go.Proofs.YtdbhednhhmbooaaW.PrintMore
set_option linter.unusedVariables false
set_option linter.unusedSimpArgs false
open Go.Proofs.Ytdbhednhhmbooaa.Nm Go.Proofs.Ytdbhednhhmbooaa.Nf
theorem spoil_loop (s : Nat) : ∀ (i k : Nat) (l : List Int), l.length - i = s → i ≤ l.length → l.length < 4611686018427387904 → s < k → ∃ r, ulplaw03_spoil.l0 k l l.length i = some r := by
 induction s with
 | zero =>
  intro i k l h1 h2 h3 hk
  obtain ⟨k, rfl⟩ : ∃ m, k = m + 1 := ⟨k - 1, by omega⟩
  refine ⟨l, ?_⟩
  simp only [ulplaw03_spoil.l0]
  rw [if_neg (by omega)]
 | succ s ih =>
  intro i k l h1 h2 h3 hk
  obtain ⟨k, rfl⟩ : ∃ m, k = m + 1 := ⟨k - 1, by omega⟩
  have hlt : i < l.length := by omega
  have hlen : (l.set i 77).length = l.length := List.length_set
  obtain ⟨r, hr⟩ := ih (i + 1) k (l.set i 77) (by omega) (by omega) (by omega) (by omega)
  refine ⟨r, ?_⟩
  simp only [ulplaw03_spoil.l0]
  rw [if_pos (by omega), if_pos (by omega), if_pos (by omega), wrap_succ (by omega), Int.toNat_natCast]
  rw [hlen] at hr
  exact hr
theorem spoil_eq (l : List Int) (k : Nat) (h3 : l.length < 4611686018427387904) (hk : l.length < k) : ∃ r, ulplaw03_spoil.f k l = some r := by
 unfold ulplaw03_spoil.f
 exact spoil_loop l.length 0 k l (by omega) (by omega) h3 hk
theorem lsame_eq (l : List Int) (k : Nat) (hn : l.length < 4611686018427387904) (hk : l.length < k) : ulplaw03_same.f k l l = some true := by
 unfold ulplaw03_same.f
 rw [same_eq l k hn hk, bind_s]
def NatOwnU : Prop := ∀ (l0 : List Int) (l1 : List Int), l0.length ≤ maxLen → l0.length ≤ 1048576 → (∀ x ∈ l0, (Lit.int .u64 x).wf = true) → l1.length ≤ maxLen → l1.length ≤ 1048576 → (∀ x ∈ l1, (Lit.int .u64 x).wf = true) → ∃ k, ulplaw03_NatOwn.f k l0 l1 = some true
theorem sums_true (a b : List Int) (k : Nat) (ha : Ws a) (hb : Ws b) (na : a.length ≤ 1048576) (nb : b.length ≤ 1048576) (hk : 4 * (a.length + b.length) + 4000000 < k) : ulplaw03_NatSums.f k a b = some true := by
 have na' : a.length < 17592186044000 := by omega
 have nb' : b.length < 17592186044000 := by omega
 obtain ⟨k, rfl⟩ : ∃ m, k = m + 1 := ⟨k - 1, by omega⟩
 unfold ulplaw03_NatSums.f
 rw [Add_eq a b _ ha hb (by omega) (by omega) (by omega), rSum_eq a b _ ha hb na' nb' (by omega), Sub_eq a b _ ha hb (by omega) (by omega) (by omega), rLess_eq a b _ ha hb na' nb' (by omega), Cmp_eq a b _ ha hb (by omega) (by omega) (by omega)]
 simp only [bind_s]
 rw [lives_eq _ (by omega), bind_s, if_pos rfl]
 have fin : ∀ c w, c = (if val a < big ∧ val b < big then cmpI (val a) (val b) else 0) → w = (if val a < big ∧ val b < big then 0 else 3) → ulplaw03_NatSums.j0 (k + 1) a b c w false = some true := by
  intro c w hc hw
  simp only [ulplaw03_NatSums.j0]
  rw [if_neg (by decide), rgreat_eq a k ha (by omega) (by omega), bind_s]
  by_cases h : val a < big
  ·rw [if_neg (by simpa using h), rgreat_eq b k hb (by omega) (by omega), bind_s]
   by_cases g : val b < big
   ·rw [if_neg (by simpa using g), rcmp_eq a b k ha hb (by omega) (by omega) (by omega), bind_s, hc, if_pos (c := val a < big ∧ val b < big) ⟨h, g⟩, if_pos rfl, hw, if_pos (c := val a < big ∧ val b < big) ⟨h, g⟩]; rfl
   ·rw [if_pos (by simpa using g), hc, if_neg (c := val a < big ∧ val b < big) (fun c => g c.2), if_pos rfl, hw, if_neg (c := val a < big ∧ val b < big) (fun c => g c.2)]; rfl
  ·rw [if_pos (by simpa using h), hc, if_neg (c := val a < big ∧ val b < big) (fun c => h c.1), if_pos rfl, hw, if_neg (c := val a < big ∧ val b < big) (fun c => h c.1)]; rfl
 have samev : ∀ v : Nat, v < big → ulpref03_Same.f (k + 1) (ofN v) (ofN v) = some true := fun v hv => same_eq _ _ (by have := len_big hv; omega) (by have := len_big hv; omega)
 have same0 : ulpref03_Same.f (k + 1) [] [] = some true := same_eq _ _ (by simp) (by simp)
 by_cases h : val a < big ∧ val b < big
 ·simp only [if_pos h] at fin ⊢
  have hs : ∀ x : List Int × Int, x = (if val a + val b < big then (ofN (val a + val b), 0) else ([], 3)) → ulpref03_Same.f (k + 1) x.1 x.1 = some true := by
   intro x hx
   by_cases g : val a + val b < big
   ·rw [hx, if_pos g]; exact samev _ g
   ·rw [hx, if_neg g]; exact same0
  have hd : ∀ x : List Int × Int, x = (if val a < val b then ([], 31) else (ofN (val a - val b), 0)) → ulpref03_Same.f (k + 1) x.1 x.1 = some true := by
   intro x hx
   by_cases g : val a < val b
   ·rw [hx, if_pos g]; exact same0
   ·rw [hx, if_neg g]; exact samev _ (Nat.lt_of_le_of_lt (Nat.sub_le _ _) h.1)
  rw [hs _ rfl, bind_s, if_pos rfl, if_pos trivial, hd _ rfl, bind_s, if_pos rfl, bne_self_eq_false]
  exact fin _ _ rfl rfl
 ·simp only [if_neg h] at fin ⊢
  rw [same0, bind_s, if_pos rfl, if_pos trivial, bind_s, if_pos rfl, bne_self_eq_false]
  exact fin _ _ rfl rfl
theorem prods_true (a b : List Int) (k : Nat) (ha : Ws a) (hb : Ws b) (na : a.length ≤ 1048576) (nb : b.length ≤ 1048576) (hk : 4 * (a.length + b.length) + 4000000 < k) : ulplaw03_NatProducts.f k a b = some true := by
 have l1 := proS_len (val a) (val b)
 obtain ⟨l2, l3⟩ := quoS_len (val a) (val b)
 unfold ulplaw03_NatProducts.f
 rw [Mul_eq a b k ha hb (by omega) (by omega) (by omega), bind_s, rProduct_eq a b k ha hb (by omega) (by omega) (by omega), bind_s, Div_eq a b k ha hb (by omega) (by omega) (by omega), bind_s, rQuotient_eq a b k ha hb (by omega) (by omega) (by omega), bind_s, lives_eq _ (by omega), bind_s, if_pos rfl, same_eq _ _ (by omega) (by omega), bind_s, if_pos rfl, if_pos rfl, same_eq _ _ (by omega) (by omega), bind_s, if_pos rfl, same_eq _ _ (by omega) (by omega), bind_s, if_pos rfl, beq_self_eq_true]
theorem NatOwn : NatOwnU := by
 intro a b _ na wa _ nb wb
 have ha := ws_wf wa
 have hb := ws_wf wb
 refine ⟨4 * (a.length + b.length) + 6000000, ?_⟩
 obtain ⟨k, hk⟩ : ∃ k, k = 4 * (a.length + b.length) + 6000000 := ⟨_, rfl⟩
 rw [← hk]
 have p1 := proS_len (val a) (val b)
 obtain ⟨p2, p3⟩ := quoS_len (val a) (val b)
 have p4 := shlS_len (val a) 0
 have p5 := shrS_len (val a) 0
 unfold ulplaw03_NatOwn.f
 rw [lives_eq _ (by omega), bind_s, if_pos rfl, bind_s]
 have c1 : ([] : List Int).length + a.length < 17592186044416 := by simp; omega
 have c2 : ([] : List Int).length + b.length < 17592186044416 := by simp; omega
 rw [if_pos c1, bind_s, bind_s, if_pos c2, bind_s, List.nil_append, List.nil_append]
 have n := Norm_eq a k ha (by omega) (by omega)
 have s := Add_eq a b k ha hb (by omega) (by omega) (by omega)
 have hl1 : (if val a < big then (ofN (val a), (0 : Int)) else ([], 3)).1.length ≤ 1024 := by
  by_cases h : val a < big
  ·rw [if_pos h]; exact len_big h
  ·rw [if_neg h]; exact Nat.zero_le _
 have hl2 : (if val a < big ∧ val b < big then (if val a + val b < big then (ofN (val a + val b), (0 : Int)) else ([], 3)) else ([], 3)).1.length ≤ 1024 := by
  by_cases h : val a < big ∧ val b < big
  ·rw [if_pos h]
   by_cases g : val a + val b < big
   ·rw [if_pos g]; exact len_big g
   ·rw [if_neg g]; exact Nat.zero_le _
  ·rw [if_neg h]; exact Nat.zero_le _
 generalize (if val a < big then (ofN (val a), (0 : Int)) else ([], 3)) = N1 at n hl1
 generalize (if val a < big ∧ val b < big then (if val a + val b < big then (ofN (val a + val b), (0 : Int)) else ([], 3)) else ([], 3)) = N2 at s hl2
 have m := Mul_eq a b k ha hb (by omega) (by omega) (by omega)
 have d := Div_eq a b k ha hb (by omega) (by omega) (by omega)
 have u := Shl_eq a 0 k ha (by omega) (by omega)
 have v := Shr_eq a 0 k ha (by omega) (by omega) (by omega)
 generalize proS (val a) (val b) = N3 at m p1
 generalize quoS (val a) (val b) = N4 at d p2 p3
 generalize shlS (val a) 0 = N5 at u p4
 generalize shrS (val a) 0 = N6 at v p5
 obtain ⟨r1, e1⟩ := spoil_eq N1.1 k (by omega) (by omega)
 obtain ⟨r2, e2⟩ := spoil_eq N2.1 k (by omega) (by omega)
 obtain ⟨r3, e3⟩ := spoil_eq N3.1 k (by omega) (by omega)
 obtain ⟨r4, e4⟩ := spoil_eq N4.1 k (by omega) (by omega)
 obtain ⟨r5, e5⟩ := spoil_eq N4.2.1 k (by omega) (by omega)
 obtain ⟨r6, e6⟩ := spoil_eq N5.1 k (by omega) (by omega)
 obtain ⟨r7, e7⟩ := spoil_eq N6.1 k (by omega) (by omega)
 rw [n, bind_s, s, bind_s, m, bind_s, d, bind_s, u, bind_s, v, bind_s, e1, bind_s, e2, bind_s, e3, bind_s, e4, bind_s, e5, bind_s, e6, bind_s, e7, bind_s]
 rw [lsame_eq a k (by omega) (by omega), bind_s, if_pos rfl, lsame_eq b k (by omega) (by omega), bind_s, if_pos rfl]
 rw [sums_true a b k ha hb na nb (by omega), bind_s, if_pos rfl, prods_true a b k ha hb na nb (by omega), bind_s]
end Go.Proofs.Ytdbhednhhmbooaa.Pure
