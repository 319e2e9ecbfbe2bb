/- Plain part. -/
import Derived.Test.YtdbhednhhmbooaaXNatWayN0
import Derived.Test.YtdbhednhhmbooaaXNatWayP1
import Derived.Test.YtdbhednhhmbooaaXNatWayP0
import Derived.Test.YtdbhednhhmbooaaXNatWayP9
import Derived.Test.YtdbhednhhmbooaaXNatWayP7
import Derived.Test.YtdbhednhhmbooaaXNatWayP10
import Derived.Test.YtdbhednhhmbooaaXNatWayP4
import Derived.Test.YtdbhednhhmbooaaXNatWayP8
import Derived.Test.YtdbhednhhmbooaaXNatWayP5
import Derived.Test.YtdbhednhhmbooaaXNatWayP6
import Derived.Laws.StructEq
import Derived.Laws.Closers25b
namespace Go.Proofs.Ytdbhednhhmbooaa.Nf
open Go.RowKit Go.Proofs.Ytdbhednhhmbooaa.PAll Go.Proofs.YtdbhednhhmbooaaW.PrintWords Go.Proofs.YtdbhednhhmbooaaW.PrintLast Go.Proofs.YtdbhednhhmbooaaW.PrintMore Go.Proofs.Ytdbhednhhmbooaa.Nm
set_option linter.unusedVariables false
set_option linter.unusedSimpArgs false
theorem wrap_dec {q : Nat} (h : 0 < q) (g : q < 18446744073709551616) : IntKind.u64.wrap ((q : Int) - 1) = ((q - 1 : Nat) : Int) := by rw [IntKind.wrap_u64]; omega
theorem rest_aux {M P d u : Int} (hM : M = 18446744073709551616) (h0 : P ≤ u * 4294967296 + d) (h1 : u * 4294967296 + d - P < M) : ((u * 4294967296 % M + d) % M - P % M) % M = u * 4294967296 + d - P := by subst hM; omega
theorem rest_eq {u d q y : Nat} (h0 : q * y ≤ u * 4294967296 + d) (h1 : u * 4294967296 + d - q * y < 18446744073709551616) :
    IntKind.u64.wrap ((IntKind.u64.wrap ((IntKind.u64.wrap ((u : Int) * 4294967296)) + (d : Int))) - (IntKind.u64.wrap ((q : Int) * (y : Int)))) = ((u * 4294967296 + d - q * y : Nat) : Int) := by
  rw [← Int.natCast_mul]
  simp only [IntKind.wrap_u64]
  rw [rest_aux rfl (by omega) (by omega)]
  omega
theorem cond_eq {q y0 r d : Nat} (hq : q < 4294967296) (hy : y0 < 4294967296) (hr : r < 4294967296) (hd : d < 4294967296) :
    decide ((IntKind.u64.wrap ((q : Int) * (y0 : Int))) > (IntKind.u64.wrap ((IntKind.u64.wrap (4294967296 * (r : Int))) + (d : Int)))) = decide (4294967296 * r + d < q * y0) := by
  have b := half_bd hq hy
  have e1 : IntKind.u64.wrap (4294967296 * (r : Int)) = ((4294967296 * r : Nat) : Int) := by rw [IntKind.wrap_u64]; omega
  rw [← Int.natCast_mul, wrapN (show q * y0 < 18446744073709551616 by omega), e1, ← Int.natCast_add, wrapN (show 4294967296 * r + d < 18446744073709551616 by omega), decide_eq_decide]
  omega
theorem wrapN2 {a b : Nat} (h : a + b < 18446744073709551616) : IntKind.u64.wrap ((a : Int) + (b : Int)) = ((a + b : Nat) : Int) := by rw [← Int.natCast_add]; exact wrapN h
theorem dec_mul {q y1 r u : Nat} (h : 0 < q) (e : q * y1 + r = u) : (q - 1) * y1 + (r + y1) = u := by
  obtain ⟨p, rfl⟩ : ∃ p, q = p + 1 := ⟨q - 1, by omega⟩
  rw [Nat.add_mul] at e
  rw [Nat.add_sub_cancel]; omega
theorem dl0 {y y1 y0 u d : Nat} (s e : Int) (hy : y = y1 * 4294967296 + y0) (h1 : 2147483648 ≤ y1) (h1' : y1 < 4294967296) (h0 : y0 < 4294967296) (hu : u < y) (hd : d < 4294967296) (n : Nat) : ∀ (k q r : Nat), q * y1 + r = u → (u * 4294967296 + d) / y ≤ q → q ≤ 4294967297 → r < 4294967296 → 4294967296 ≤ r + n * 2147483648 → 2 * n + 2 < k →
    ∃ k', k ≤ k' + 2 * n + 2 ∧ bits_Div64.l0 k y s y1 y0 u d e q r = bits_Div64.j2 k' y s y1 y0 u d e (((u * 4294967296 + d) / y : Nat) : Int) := by
  induction n with
  | zero => intro k q r _ _ _ hr hn _; omega
  | succ n ih =>
    intro k q r he hq hq2 hr hn hk
    obtain ⟨k, rfl⟩ : ∃ m, k = m + 2 := ⟨k - 2, by omega⟩
    have hyp : 0 < y := by omega
    have hQ := (digit_rest hyp hu hd).1
    have dn := digit_down (r := r) hy hu hd he
    have lw := fun q r (e : q * y1 + r = u) (h : q * y0 ≤ 4294967296 * r + d) => digit_low (d := d) hy hyp e h
    have ih' := fun q r a b c d e => ih k q r a b c d e (by omega)
    clear ih
    generalize (u * 4294967296 + d) / y = Q at *
    have down : ∀ b, (4294967296 ≤ q ∨ 4294967296 * r + d < q * y0) → b = true → ∃ k', k + 2 ≤ k' + 2 * (n + 1) + 2 ∧ bits_Div64.j1 (k + 1) y s y1 y0 u d e q r b = bits_Div64.j2 k' y s y1 y0 u d e (Q : Int) := by
      intro b hc hb
      have lt := dn hc
      have q0 : 0 < q := by omega
      have q1 : q < 18446744073709551616 := by omega
      have rb : r + y1 < 18446744073709551616 := by omega
      have e2 := dec_mul q0 he
      have gi : ((r + y1 : Nat) : Int) ≥ 4294967296 ↔ 4294967296 ≤ r + y1 := by omega
      have ex : 4294967296 ≤ r + y1 → q - 1 = Q := fun g => by
        have hz : (q - 1) * y0 ≤ 4294967296 * 4294967296 := Nat.mul_le_mul (by omega) (by omega)
        have := lw (q - 1) (r + y1) e2 (by omega)
        omega
      have ii : ¬ 4294967296 ≤ r + y1 → _ := fun g => ih' (q - 1) (r + y1) e2 (by omega) (by omega) (by omega) (by omega)
      subst hb
      simp only [bits_Div64.j1]
      rw [if_pos trivial, wrapN2 rb, wrap_dec q0 q1]
      by_cases g : 4294967296 ≤ r + y1
      · rw [if_pos (gi.2 g), ex g]
        exact ⟨k, by omega, rfl⟩
      · rw [if_neg (fun x => g (gi.1 x))]
        obtain ⟨k', h1, h2⟩ := ii g
        exact ⟨k', by omega, h2⟩
    have gq : (q : Int) ≥ 4294967296 ↔ 4294967296 ≤ q := by omega
    have gq2 : ¬ 4294967296 ≤ q → q < 4294967296 := by omega
    have ex : ¬ 4294967296 * r + d < q * y0 → q = Q := fun c => by
      have := lw q r he (by omega)
      omega
    simp only [bits_Div64.l0]
    by_cases g : 4294967296 ≤ q
    · rw [if_pos (gq.2 g)]
      exact down true (.inl g) rfl
    · rw [if_neg (fun x => g (gq.1 x)), cond_eq (gq2 g) h0 hr hd]
      by_cases c : 4294967296 * r + d < q * y0
      · exact down _ (.inr c) (decide_eq_true c)
      · rw [decide_eq_false c]
        simp only [bits_Div64.j1]
        rw [if_neg (by decide), ex c]
        exact ⟨k, by omega, rfl⟩
/-- The second digit, and the answer. -/
theorem dl1 {y y1 y0 u d : Nat} (s : Nat) (q1 : Int) (hy : y = y1 * 4294967296 + y0) (h1 : 2147483648 ≤ y1) (h1' : y1 < 4294967296) (h0 : y0 < 4294967296) (hu : u < y) (hd : d < 4294967296) (n : Nat) : ∀ (k q r : Nat), q * y1 + r = u → (u * 4294967296 + d) / y ≤ q → q ≤ 4294967297 → r < 4294967296 → 4294967296 ≤ r + n * 2147483648 → 2 * n + 2 < k →
    bits_Div64.l1 k y s y1 y0 d q1 r u q = some (IntKind.u64.wrap ((IntKind.u64.wrap (q1 * 4294967296)) + (((u * 4294967296 + d) / y : Nat) : Int)), shr .u64 (((u * 4294967296 + d) % y : Nat) : Int) s) := by
  induction n with
  | zero => intro k q r _ _ _ hr hn _; omega
  | succ n ih =>
    intro k q r he hq hq2 hr hn hk
    obtain ⟨k, rfl⟩ : ∃ m, k = m + 2 := ⟨k - 2, by omega⟩
    have hyp : 0 < y := by omega
    obtain ⟨hQ, hR, hR2⟩ := digit_rest hyp hu hd
    have dn := digit_down (r := r) hy hu hd he
    have lw := fun q r (e : q * y1 + r = u) (h : q * y0 ≤ 4294967296 * r + d) => digit_low (d := d) hy hyp e h
    have ih' := fun q r a b c d e => ih k q r a b c d e (by omega)
    clear ih
    generalize (u * 4294967296 + d) / y = Q at *
    generalize (u * 4294967296 + d) % y = R at *
    have rest : IntKind.u64.wrap ((IntKind.u64.wrap ((IntKind.u64.wrap ((u : Int) * 4294967296)) + (d : Int))) - (IntKind.u64.wrap ((Q : Int) * (y : Int)))) = (R : Int) := by
      rw [rest_eq (by omega) (by omega)]
      congr 1; omega
    have gq : (q : Int) ≥ 4294967296 ↔ 4294967296 ≤ q := by omega
    have gq2 : ¬ 4294967296 ≤ q → q < 4294967296 := by clear rest; omega
    have ex2 : ¬ 4294967296 * r + d < q * y0 → q = Q := fun c => by
      clear rest
      have := lw q r he (by omega)
      omega
    have down : ∀ b, (4294967296 ≤ q ∨ 4294967296 * r + d < q * y0) → b = true → bits_Div64.j4 (k + 1) y s y1 y0 d q1 r u q b = some (IntKind.u64.wrap ((IntKind.u64.wrap (q1 * 4294967296)) + (Q : Int)), shr .u64 (R : Int) s) := by
      intro b hc hb
      have lt := dn hc
      have q0 : 0 < q := by clear rest; omega
      have q1 : q < 18446744073709551616 := by clear rest; omega
      have rb : r + y1 < 18446744073709551616 := by clear rest; omega
      have e2 := dec_mul q0 he
      have gi : ((r + y1 : Nat) : Int) ≥ 4294967296 ↔ 4294967296 ≤ r + y1 := by clear rest; omega
      have ex : 4294967296 ≤ r + y1 → q - 1 = Q := fun g => by
        clear rest
        have hz : (q - 1) * y0 ≤ 4294967296 * 4294967296 := Nat.mul_le_mul (by omega) (by omega)
        have := lw (q - 1) (r + y1) e2 (by omega)
        omega
      have i1 : Q ≤ q - 1 := by clear rest; omega
      have i2 : q - 1 ≤ 4294967297 := by clear rest; omega
      have i3 : ¬ 4294967296 ≤ r + y1 → r + y1 < 4294967296 := by clear rest; omega
      have i4 : 4294967296 ≤ r + y1 + n * 2147483648 := by clear rest; omega
      subst hb
      simp only [bits_Div64.j4]
      rw [if_pos trivial, wrapN2 rb, wrap_dec q0 q1]
      by_cases g : 4294967296 ≤ r + y1
      · rw [if_pos (gi.2 g), ex g, if_pos (Int.natCast_nonneg _), rest]
      · rw [if_neg (fun x => g (gi.1 x))]
        exact ih' (q - 1) (r + y1) e2 i1 i2 (i3 g) i4
    simp only [bits_Div64.l1]
    by_cases g : 4294967296 ≤ q
    · rw [if_pos (gq.2 g)]
      exact down true (.inl g) rfl
    · rw [if_neg (fun x => g (gq.1 x)), cond_eq (gq2 g) h0 hr hd]
      by_cases c : 4294967296 * r + d < q * y0
      · exact down _ (.inr c) (decide_eq_true c)
      · rw [decide_eq_false c]
        simp only [bits_Div64.j4]
        rw [if_neg (by decide), if_pos (Int.natCast_nonneg _), ex2 c, rest]
/-- The first guess of a digit, and what is left of it. -/
theorem guess {u y1 : Nat} (h : 0 < y1) (hu : u < 18446744073709551616) : IntKind.u64.wrap (Int.tdiv (u : Int) (y1 : Int)) = ((u / y1 : Nat) : Int) ∧ IntKind.u64.wrap ((u : Int) - IntKind.u64.wrap (((u / y1 : Nat) : Int) * (y1 : Int))) = ((u % y1 : Nat) : Int) ∧ u / y1 * y1 + u % y1 = u := by
  have e := Nat.div_add_mod u y1
  rw [Nat.mul_comm] at e
  have := Nat.div_le_self u y1
  refine ⟨by rw [tdivN]; exact wrapN (by omega), ?_, e⟩
  rw [← Int.natCast_mul]
  generalize u / y1 * y1 = p at *
  generalize u % y1 = r at *
  rw [wrapN (by omega), wrapU (by omega) (by omega)]; omega
theorem q32 {Q : Nat} (h : Q < 4294967296) : Q * 4294967296 < 18446744073709551616 := by omega
theorem q32x {Q x : Nat} (h : Q < 4294967296) (g : x < 4294967296) : Q * 4294967296 + x < 18446744073709551616 := by omega
theorem dj2 {y y1 y0 u d e0 : Nat} (s : Nat) (hy : y = y1 * 4294967296 + y0) (h1 : 2147483648 ≤ y1) (h1' : y1 < 4294967296) (h0 : y0 < 4294967296) (hu : u < y) (hd : d < 4294967296) (he : e0 < 4294967296) (k : Nat) (hk : 9 < k) (Q R : Nat) (eQ : (u * 4294967296 + d) / y = Q) (eR : (u * 4294967296 + d) % y = R) :
    bits_Div64.j2 k y s y1 y0 u d e0 (Q : Int) = some (((Q * 4294967296 + (R * 4294967296 + e0) / y : Nat) : Int), shr .u64 (((R * 4294967296 + e0) % y : Nat) : Int) s) := by
  obtain ⟨k, rfl⟩ : ∃ m, k = m + 1 := ⟨k - 1, by omega⟩
  have hyp : 0 < y := by omega
  obtain ⟨hQ, hR, hR2⟩ := digit_rest hyp hu hd
  rw [eQ] at hQ hR
  rw [eR] at hR hR2
  clear eQ eR
  have c1 : Q * y ≤ u * 4294967296 + d := by omega
  have c2 : u * 4294967296 + d - Q * y = R := by omega
  have c3 : R < 18446744073709551616 := by omega
  have c4 : ¬ (y1 : Int) = 0 := by omega
  have c5 : 0 < y1 := by omega
  have hm : R % y1 < y1 := Nat.mod_lt _ c5
  have c6 : R % y1 < 4294967296 := by omega
  have c7 : 4294967296 ≤ R % y1 + 3 * 2147483648 := by omega
  have c8 : 2 * 3 + 2 < k := by omega
  have c10 := q32 hQ
  obtain ⟨f1, f2⟩ := digit_first hy h1 h0 hR2 he
  obtain ⟨q2, _, _⟩ := digit_rest hyp hR2 he
  have c9 := q32x hQ q2
  have c11 := rest_eq c1 (by rw [c2]; exact c3)
  rw [c2] at c11
  obtain ⟨g1, g2, g3⟩ := guess c5 c3
  have e3 : IntKind.u64.wrap ((Q : Int) * 4294967296) = ((Q * 4294967296 : Nat) : Int) := wrapN c10
  simp only [bits_Div64.j2]
  rw [c11, if_neg c4, g1, g2, dl1 s Q hy h1 h1' h0 hR2 he 3 k _ _ g3 f1 f2 c6 c7 c8, e3, wrapN2 c9]
theorem bl_norm {y : Nat} (h : y ≠ 0) (hy : y < 18446744073709551616) : y * 2 ^ (64 - bl y) < 18446744073709551616 ∧ 9223372036854775808 ≤ y * 2 ^ (64 - bl y) ∧ 64 - bl y ≤ 63 := by
  have a := bl_lt y; have b := bl_le h; have c := bl_word hy; have d := bl_ne h
  have e : 2 ^ bl y * 2 ^ (64 - bl y) = 18446744073709551616 := by rw [← Nat.pow_add, Nat.add_sub_cancel' c]
  have hp : 0 < 2 ^ (64 - bl y) := Nat.pow_pos (by decide)
  refine ⟨?_, ?_, by omega⟩
  · rw [← e]; exact Nat.mul_lt_mul_of_pos_right a hp
  · have := Nat.mul_le_mul_right (2 ^ (64 - bl y)) b
    rw [e, Nat.mul_assoc] at this
    omega
theorem Div64_tail (k hi lo y s : Nat) (z : ¬ hi = 0) (hh : hi < y) (hl : lo < 18446744073709551616) (hy : y < 18446744073709551616) (n1 : y * 2 ^ s < 18446744073709551616) (n2 : 9223372036854775808 ≤ y * 2 ^ s) (n3 : s ≤ 63) (hk : 40 < k) :
    (if 0 ≤ (IntKind.u64.wrap ((s : Nat) : Int)) then (if 0 ≤ (IntKind.u64.wrap (64 - (IntKind.u64.wrap ((s : Nat) : Int)))) then (if ((shl .u64 (y : Int) (IntKind.u64.wrap ((s : Nat) : Int))) / 4294967296) = 0 then (none) else (bits_Div64.l0 k (shl .u64 (y : Int) (IntKind.u64.wrap ((s : Nat) : Int))) (IntKind.u64.wrap ((s : Nat) : Int)) ((shl .u64 (y : Int) (IntKind.u64.wrap ((s : Nat) : Int))) / 4294967296) (Go.bits .and .u64 (shl .u64 (y : Int) (IntKind.u64.wrap ((s : Nat) : Int))) 4294967295) (Go.bits .or .u64 (shl .u64 (hi : Int) (IntKind.u64.wrap ((s : Nat) : Int))) (shr .u64 (lo : Int) (IntKind.u64.wrap (64 - (IntKind.u64.wrap ((s : Nat) : Int)))))) ((shl .u64 (lo : Int) (IntKind.u64.wrap ((s : Nat) : Int))) / 4294967296) (Go.bits .and .u64 (shl .u64 (lo : Int) (IntKind.u64.wrap ((s : Nat) : Int))) 4294967295) (IntKind.u64.wrap (Int.tdiv (Go.bits .or .u64 (shl .u64 (hi : Int) (IntKind.u64.wrap ((s : Nat) : Int))) (shr .u64 (lo : Int) (IntKind.u64.wrap (64 - (IntKind.u64.wrap ((s : Nat) : Int)))))) ((shl .u64 (y : Int) (IntKind.u64.wrap ((s : Nat) : Int))) / 4294967296))) (IntKind.u64.wrap ((Go.bits .or .u64 (shl .u64 (hi : Int) (IntKind.u64.wrap ((s : Nat) : Int))) (shr .u64 (lo : Int) (IntKind.u64.wrap (64 - (IntKind.u64.wrap ((s : Nat) : Int)))))) - (IntKind.u64.wrap ((IntKind.u64.wrap (Int.tdiv (Go.bits .or .u64 (shl .u64 (hi : Int) (IntKind.u64.wrap ((s : Nat) : Int))) (shr .u64 (lo : Int) (IntKind.u64.wrap (64 - (IntKind.u64.wrap ((s : Nat) : Int)))))) ((shl .u64 (y : Int) (IntKind.u64.wrap ((s : Nat) : Int))) / 4294967296))) * ((shl .u64 (y : Int) (IntKind.u64.wrap ((s : Nat) : Int))) / 4294967296))))))) else (none)) else (none)) = some ((((hi * 18446744073709551616 + lo) / y : Nat) : Int), (((hi * 18446744073709551616 + lo) % y : Nat) : Int)) := by
  have s1 : s ≤ 64 := by omega
  have s2 : 64 - s ≤ 64 := by omega
  have s3 : s < 18446744073709551616 := by omega
  have hp : 0 < 2 ^ s := Nat.pow_pos (by decide)
  have hc : lo / 2 ^ (64 - s) < 2 ^ s := shr_up_lt s1 hl
  have hhi : (hi + 1) * 2 ^ s ≤ y * 2 ^ s := Nat.mul_le_mul_right _ hh
  rw [Nat.add_mul] at hhi
  have hub : hi * 2 ^ s + lo / 2 ^ (64 - s) < y * 2 ^ s := by omega
  have c0 : hi * 2 ^ s < 18446744073709551616 := by omega
  obtain ⟨-, parts⟩ := shl_parts (w := lo) s1
  have hv : (hi * 18446744073709551616 + lo) * 2 ^ s = (hi * 2 ^ s + lo / 2 ^ (64 - s)) * 18446744073709551616 + lo * 2 ^ s % 18446744073709551616 := by
    rw [Nat.add_mul, Nat.add_mul, Nat.mul_right_comm]; omega
  have hm : lo * 2 ^ s % 18446744073709551616 < 18446744073709551616 := Nat.mod_lt _ (by decide)
  obtain ⟨b1, b2⟩ := shift_both (v := hi * 18446744073709551616 + lo) (s := s) (show 0 < y by omega)
  rw [hv] at b1 b2
  rw [← b1, ← b2]
  clear b1 b2
  obtain ⟨V, hV⟩ : ∃ V, V = (hi * 2 ^ s + lo / 2 ^ (64 - s)) * 18446744073709551616 + lo * 2 ^ s % 18446744073709551616 := ⟨_, rfl⟩
  rw [← hV]
  have w1 : shl .u64 (y : Int) (s : Int) = ((y * 2 ^ s : Nat) : Int) := by rw [shl_eq _ _ s1, Nat.mod_eq_of_lt n1]
  have w2 : Go.bits .or .u64 (shl .u64 (hi : Int) (s : Int)) (shr .u64 (lo : Int) ((64 - s : Nat) : Int)) = ((hi * 2 ^ s + lo / 2 ^ (64 - s) : Nat) : Int) := by
    rw [shr_eq _ _ s2, or_shl s1 hc, Nat.mod_eq_of_lt c0]
  have w3 : shl .u64 (lo : Int) (s : Int) = ((lo * 2 ^ s % 18446744073709551616 : Nat) : Int) := shl_eq _ _ s1
  have e64 : IntKind.u64.wrap (64 - (s : Int)) = ((64 - s : Nat) : Int) := by rw [IntKind.wrap_u64]; omega
  rw [wrapN s3, if_pos (Int.natCast_nonneg _), e64, if_pos (Int.natCast_nonneg _), w1, w2, w3]
  clear w1 w2 w3 e64 hv parts hc hhi c0 hp
  generalize y * 2 ^ s = Y at *
  generalize hi * 2 ^ s + lo / 2 ^ (64 - s) = u at *
  generalize lo * 2 ^ s % 18446744073709551616 = m at *
  have c1 : (Y : Int) / 4294967296 = ((Y / 4294967296 : Nat) : Int) := divN Y 4294967296
  have c2 : (m : Int) / 4294967296 = ((m / 4294967296 : Nat) : Int) := divN m 4294967296
  have hY : Y = Y / 4294967296 * 4294967296 + Y % 4294967296 := by clear c1 c2; omega
  have hM : m = m / 4294967296 * 4294967296 + m % 4294967296 := by clear c1 c2; omega
  have h1 : 2147483648 ≤ Y / 4294967296 := by clear c1 c2; omega
  have h1' : Y / 4294967296 < 4294967296 := by clear c1 c2; omega
  have h0 : Y % 4294967296 < 4294967296 := by clear c1 c2; omega
  have hd : m / 4294967296 < 4294967296 := by clear c1 c2; omega
  have he : m % 4294967296 < 4294967296 := by clear c1 c2; omega
  have hy0 : ¬ ((Y / 4294967296 : Nat) : Int) = 0 := by clear c1 c2; omega
  rw [c1, c2, and32 n1, and32 hm, if_neg hy0]
  clear c1 c2
  generalize Y / 4294967296 = y1 at *
  generalize Y % 4294967296 = y0 at *
  generalize m / 4294967296 = d at *
  generalize m % 4294967296 = e0 at *
  have hYp : 0 < Y := by omega
  rw [hM] at hV
  obtain ⟨t1, t2⟩ := digits_two hYp hV
  clear hV
  have c5 : 0 < y1 := by omega
  have c3 : u < 18446744073709551616 := by omega
  obtain ⟨f1, f2⟩ := digit_first hY h1 h0 hub hd
  have hmm : u % y1 < y1 := Nat.mod_lt _ c5
  have c6 : u % y1 < 4294967296 := by omega
  have c7 : 4294967296 ≤ u % y1 + 3 * 2147483648 := by omega
  have c8 : 2 * 3 + 2 < k := by omega
  have c9 : ∀ k', k ≤ k' + 2 * 3 + 2 → 9 < k' := fun k' h => by omega
  obtain ⟨g1, g2, g3⟩ := guess c5 c3
  rw [g1, g2]
  obtain ⟨k', hk', e⟩ := dl0 (s : Int) (e0 : Int) hY h1 h1' h0 hub hd 3 k _ _ g3 f1 f2 c6 c7 c8
  rw [e, dj2 s hY h1 h1' h0 hub hd he k' (c9 k' hk') _ _ rfl rfl, shr_eq _ _ s1, t1, t2]
theorem Div64_eq (k hi lo y : Nat) (hh : hi < y) (hl : lo < 18446744073709551616) (hy : y < 18446744073709551616) (hk : 40 < k) :
    bits_Div64.f k hi lo y = some ((((hi * 18446744073709551616 + lo) / y : Nat) : Int), (((hi * 18446744073709551616 + lo) % y : Nat) : Int)) := by
  unfold bits_Div64.f
  rw [if_neg (by omega), if_neg (by omega)]
  by_cases z : hi = 0
  · subst z
    rw [if_pos (show ((0 : Nat) : Int) = 0 from rfl), tdivN, tmodN, Nat.zero_mul, Nat.zero_add, wrapN (Nat.lt_of_le_of_lt (Nat.div_le_self _ _) hl)]
  · obtain ⟨n1, n2, n3⟩ := bl_norm (show y ≠ 0 by omega) hy
    have z1 : ¬ (hi : Int) = 0 := by omega
    have z2 : 1 < k := by omega
    rw [if_neg z1, Lead64_eq k y hy z2, bind_s]
    generalize 64 - bl y = s at *
    exact Div64_tail k hi lo y s z hh hl hy n1 n2 n3 hk
end Go.Proofs.Ytdbhednhhmbooaa.Nf

namespace Go.Proofs.Ytdbhednhhmbooaa.Nf
open Go.RowKit Go.Proofs.Ytdbhednhhmbooaa.PAll Go.Proofs.YtdbhednhhmbooaaW.PrintWords Go.Proofs.YtdbhednhhmbooaaW.PrintLast Go.Proofs.YtdbhednhhmbooaaW.PrintMore Go.Proofs.Ytdbhednhhmbooaa.Nm
set_option linter.unusedVariables false
set_option linter.unusedSimpArgs false
theorem wrap_pred {j : Nat} (h : j < 4611686018427387904) : wrap64 ((j : Int) - 1) = (j : Int) - 1 := wrapS (by omega) (by omega)
theorem word_div_lt {r a d : Nat} (hr : r < d) (ha : a < 18446744073709551616) : (r * 18446744073709551616 + a) / d < 18446744073709551616 := by
  rw [Nat.div_lt_iff_lt_mul (by omega)]
  have : 18446744073709551616 * (r + 1) ≤ 18446744073709551616 * d := Nat.mul_le_mul_left _ (Nat.succ_le_of_lt hr)
  omega
theorem short_loop (a : List Int) (ha : Ws a) (d : Nat) (hd0 : 0 < d) (hd : d < 18446744073709551616) (na : a.length < 35184372088832) (j : Nat) : ∀ (k : Nat) (o : List Int) (r : Nat), j ≤ a.length → j + a.length + 100 < k → o.length = a.length → Ws o → r < d →
    val (a.drop j) = d * val (o.drop j) + r →
    nat_number_short.l0 k a d o r ((j : Int) - 1) = some (ofN (val a / d), ((val a % d : Nat) : Int)) := by
  induction j with
  | zero =>
    intro k o r hj hk ho hw hr hv
    obtain ⟨k, rfl⟩ : ∃ m, k = m + 1 := ⟨k - 1, by omega⟩
    simp only [nat_number_short.l0]
    rw [if_neg (by omega), norm_eq _ _ k rfl hw (by omega) (by omega), bind_s]
    rw [List.drop_zero, List.drop_zero] at hv
    obtain ⟨h1, h2⟩ := div_unique hv hr
    rw [h1, h2]
  | succ j ih =>
    intro k o r hj hk ho hw hr hv
    obtain ⟨k, rfl⟩ : ∃ m, k = m + 1 := ⟨k - 1, by omega⟩
    have e0 : ((j + 1 : Nat) : Int) - 1 = (j : Int) := by omega
    have g1 : (j : Int) < (a.length : Int) := by omega
    have g2 : (j : Int) < (o.length : Int) := by omega
    have g3 : (j : Int) ≥ 0 := by omega
    have i1 : j ≤ a.length := by omega
    have i2 : j + a.length + 100 < k := by omega
    have i3 : 40 < k := by omega
    have i4 : j < o.length := by omega
    have i5 : j < a.length := by omega
    have i6 : j < 4611686018427387904 := by omega
    obtain ⟨p0, p1⟩ := ws_get ha j
    have ew := asNat p0
    have hda := val_drop a j i5
    have hdo := val_drop (o.set j (((r * 18446744073709551616 + (a.getD j 0).toNat) / d : Nat) : Int)) j (by rw [List.length_set]; exact i4)
    rw [drop_set, Nm.getD_set_eq _ _ _ i4, Int.toNat_natCast] at hdo
    generalize hwn : (a.getD j 0).toNat = w at *
    have w1 : w < 18446744073709551616 := Int.ofNat_lt.1 (ew ▸ p1)
    have hq := word_div_lt hr w1
    have hm : (r * 18446744073709551616 + w) % d < d := Nat.mod_lt _ hd0
    have hz := Nat.div_add_mod (r * 18446744073709551616 + w) d
    rw [e0]
    simp only [nat_number_short.l0]
    rw [if_pos g3, if_pos g3, if_pos g1, rd_nat, ew, Div64_eq k r w d hr w1 hd i3, bind_s, if_pos g2, Int.toNat_natCast, wrap_pred i6]
    refine ih k _ _ i1 i2 (by rw [List.length_set]; exact ho) (ws_set hw _ (Int.natCast_nonneg _) (Int.ofNat_lt.2 hq)) hm ?_
    rw [hda, hdo]
    refine short_round ?_ hv
    rw [Nat.mul_comm _ r, Nat.mul_comm _ d]; exact hz.symm
theorem short_eq (a : List Int) (ha : Ws a) (d k : Nat) (hd0 : 0 < d) (hd : d < 18446744073709551616) (na : a.length < 35184372088832) (hk : 2 * a.length + 100 < k) : nat_number_short.f k a d = some (ofN (val a / d), ((val a % d : Nat) : Int)) := by
  unfold nat_number_short.f
  rw [if_pos (by omega), if_pos (by rw [Int.toNat_natCast]; omega), Int.toNat_natCast, wrap_pred (by omega)]
  have hv : val (a.drop a.length) = d * val ((List.replicate a.length (0 : Int)).drop a.length) + 0 := by
    rw [val_drop_len, List.drop_eq_nil_of_le (by simp)]; simp [val]
  exact short_loop a ha d hd0 hd na a.length k _ 0 (Nat.le_refl _) (by omega) (by simp) (ws_replicate _) hd0 hv
end Go.Proofs.Ytdbhednhhmbooaa.Nf

namespace Go.Proofs.Ytdbhednhhmbooaa.Nf
open Go.RowKit Go.Proofs.Ytdbhednhhmbooaa.PAll Go.Proofs.YtdbhednhhmbooaaW.PrintWords Go.Proofs.YtdbhednhhmbooaaW.PrintLast Go.Proofs.YtdbhednhhmbooaaW.PrintMore Go.Proofs.Ytdbhednhhmbooaa.Nm
set_option linter.unusedVariables false
set_option linter.unusedSimpArgs false
theorem wrapM (a b : Nat) : IntKind.u64.wrap ((a : Int) + (b : Int)) = (((a + b) % 18446744073709551616 : Nat) : Int) := by rw [IntKind.wrap_u64]; omega
theorem mac_lin {o c p h l : Nat} (e : p = h * 18446744073709551616 + l) (hl : l < 18446744073709551616) : ((l + o) % 18446744073709551616 + c) % 18446744073709551616 = (o + c + p) % 18446744073709551616 ∧ h + (l + o) / 18446744073709551616 + ((l + o) % 18446744073709551616 + c) / 18446744073709551616 = (o + c + p) / 18446744073709551616 := by
  subst e; constructor <;> omega
theorem mac_eq {o c p : Nat} (h : (o + c + p) / 18446744073709551616 < 18446744073709551616) :
    add64s (add64s ((p % 18446744073709551616 : Nat) : Int) (o : Int) 0) (c : Int) 0 = (((o + c + p) % 18446744073709551616 : Nat) : Int) ∧
    IntKind.u64.wrap ((IntKind.u64.wrap (((p / 18446744073709551616 : Nat) : Int) + add64c ((p % 18446744073709551616 : Nat) : Int) (o : Int) 0)) + add64c (add64s ((p % 18446744073709551616 : Nat) : Int) (o : Int) 0) (c : Int) 0) = (((o + c + p) / 18446744073709551616 : Nat) : Int) := by
  obtain ⟨m1, m2⟩ := mac_lin (o := o) (c := c) (p := p) (h := p / 18446744073709551616) (l := p % 18446744073709551616) (by omega) (Nat.mod_lt _ (by decide))
  rw [a64s, a64c, a64s, a64c]
  simp only [Int.toNat_natCast, Int.toNat_zero, Nat.add_zero]
  rw [m1]
  refine ⟨rfl, ?_⟩
  rw [wrapN2 (by omega), wrapN2 (by omega), m2]
theorem row_step (b : List Int) (i j x : Nat) : 18446744073709551616 ^ i * (x * val (b.take (j + 1))) = 18446744073709551616 ^ i * (x * val (b.take j)) + 18446744073709551616 ^ (i + j) * (x * (b.getD j 0).toNat) := by
  rw [take_succ_getD b, Nat.mul_add, Nat.mul_add, Nat.pow_add, Nat.mul_left_comm x, ← Nat.mul_assoc (18446744073709551616 ^ i) (18446744073709551616 ^ j)]
theorem col_step (a b : List Int) (i : Nat) : val (a.take (i + 1)) * val b = val (a.take i) * val b + 18446744073709551616 ^ i * ((a.getD i 0).toNat * val b) := by
  rw [take_succ_getD a, Nat.add_mul, Nat.mul_assoc]
theorem nmul_inner (a b : List Int) (hb : Ws b) (i x L F V0 : Nat) (R : Option (List Int)) (hx : x < 18446744073709551616) (hL : i + b.length + 1 ≤ L) (hL2 : L < 70368744177664)
    (next : ∀ (k : Nat) (o : List Int), F < k → o.length = L → Ws o → val (o.take (i + b.length + 1)) = V0 + 18446744073709551616 ^ i * (x * val b) → (∀ m, i + b.length + 1 ≤ m → o.getD m 0 = 0) → nat_number_mul.l0 k b o a a.length ((i + 1 : Nat) : Int) = R) (s : Nat) :
    ∀ (j k : Nat) (o : List Int) (c : Nat), b.length - j = s → j ≤ b.length → F + s + 1 < k → o.length = L → Ws o → c < 18446744073709551616 → (∀ m, i + b.length ≤ m → o.getD m 0 = 0) →
    val (o.take (i + b.length)) + 18446744073709551616 ^ (i + j) * c = V0 + 18446744073709551616 ^ i * (x * val (b.take j)) →
    nat_number_mul.l1 k b o i x c a a.length i b b.length j = R := by
  induction s with
  | zero =>
    intro j k o c hs hj hk ho hw hc hz hv
    obtain ⟨k, rfl⟩ : ∃ m, k = m + 1 := ⟨k - 1, by omega⟩
    obtain rfl : j = b.length := by omega
    have g0 : ¬ ((b.length : Int) < (b.length : Int)) := by omega
    have b1 : i + b.length < 4611686018427387904 := by omega
    have b2 : i < 4611686018427387904 := by omega
    have g2 : ((i + b.length : Nat) : Int) < (o.length : Int) := by omega
    have i1 : i + b.length < o.length := by omega
    have i2 : F < k := by omega
    have hz' : ∀ m, i + b.length + 1 ≤ m → i + b.length ≤ m ∧ i + b.length ≠ m := fun m h => by omega
    have ww : wrap64 ((i : Int) + (b.length : Int)) = ((i + b.length : Nat) : Int) := by rw [wrapS (by omega) (by omega)]; omega
    simp only [nat_number_mul.l1]
    rw [if_neg g0, ww, if_pos (Int.natCast_nonneg _), if_pos g2, wrap_succ b2, Int.toNat_natCast]
    refine next k _ i2 (by rw [List.length_set]; exact ho) (ws_set hw _ (Int.natCast_nonneg _) (Int.ofNat_lt.2 hc)) ?_ ?_
    · rw [val_set_take o _ _ i1, Int.toNat_natCast, hv, val_take_ge _ _ (Nat.le_refl _)]
    · intro m hm
      obtain ⟨h1, h2⟩ := hz' m hm
      rw [Nm.getD_set_ne _ _ _ _ h2]; exact hz m h1
  | succ s ih =>
    intro j k o c hs hj hk ho hw hc hz hv
    obtain ⟨k, rfl⟩ : ∃ m, k = m + 1 := ⟨k - 1, by omega⟩
    have i1 : b.length - (j + 1) = s := by omega
    have i2 : j + 1 ≤ b.length := by omega
    have i3 : F + s + 1 < k := by omega
    have i4 : i + j < i + b.length := by omega
    have i5 : i + b.length ≤ o.length := by omega
    have g1 : (j : Int) < (b.length : Int) := by omega
    have g2 : ((i + j : Nat) : Int) < (o.length : Int) := by omega
    have b3 : j < 4611686018427387904 := by omega
    have hz' : ∀ m, i + b.length ≤ m → i + j ≠ m := fun m h => by omega
    have ww : wrap64 ((i : Int) + (j : Int)) = ((i + j : Nat) : Int) := by rw [wrapS (by omega) (by omega)]; omega
    obtain ⟨p0, p1⟩ := ws_get hb j
    obtain ⟨q0, q1⟩ := ws_get hw (i + j)
    have ey := asNat p0
    have eo := asNat q0
    have rs := row_step b i j x
    have vs := fun n : Nat => val_set o (i + j) (i + b.length) (n : Int) i4 i5
    generalize hyn : (b.getD j 0).toNat = y at *
    generalize hon : (o.getD (i + j) 0).toNat = u at *
    have y1 : y < 18446744073709551616 := Int.ofNat_lt.1 (ey ▸ p1)
    have u1 : u < 18446744073709551616 := Int.ofNat_lt.1 (eo ▸ q1)
    have hd := mul_bound u1 hc hx y1
    obtain ⟨m1, m2⟩ := mac_eq (o := u) (c := c) (p := x * y) hd
    have hn : (u + c + x * y) % 18446744073709551616 < 18446744073709551616 := Nat.mod_lt _ (by decide)
    have hdm := Nat.mod_add_div (u + c + x * y) 18446744073709551616
    simp only [nat_number_mul.l1]
    rw [if_pos g1, if_pos (Int.natCast_nonneg _), if_pos g1, rd_nat, ey, Mul64_eq x y hx y1, bind_s, ww, if_pos (Int.natCast_nonneg _), if_pos g2, rd_nat, eo, wrap_succ b3, Int.toNat_natCast]
    dsimp only
    rw [m1, m2]
    refine ih (j + 1) k _ _ i1 i2 i3 (by rw [List.length_set]; exact ho) (ws_set hw _ (Int.natCast_nonneg _) (Int.ofNat_lt.2 hn)) hd ?_ ?_
    · intro m hm
      rw [Nm.getD_set_ne _ _ _ _ (hz' m hm)]; exact hz m hm
    · have vs' := vs ((u + c + x * y) % 18446744073709551616)
      rw [Int.toNat_natCast] at vs'
      rw [rs]
      exact mul_round vs' hdm hv
theorem nmul_outer (a b : List Int) (ha : Ws a) (hb : Ws b) (L : Nat) (hL : a.length + b.length = L) (hL2 : L < 35184372088832) (s : Nat) : ∀ (i k : Nat) (o : List Int), a.length - i = s → i ≤ a.length → s * (b.length + 2) + L + 10 < k → o.length = L → Ws o → (∀ m, i + b.length ≤ m → o.getD m 0 = 0) →
    val (o.take (i + b.length)) = val (a.take i) * val b → nat_number_mul.l0 k b o a a.length i = some (ofN (val a * val b)) := by
  induction s with
  | zero =>
    intro i k o hs hi hk ho hw hz hv
    obtain ⟨k, rfl⟩ : ∃ m, k = m + 1 := ⟨k - 1, by omega⟩
    obtain rfl : i = a.length := by omega
    have g0 : ¬ ((a.length : Int) < (a.length : Int)) := by omega
    simp only [nat_number_mul.l0]
    rw [if_neg g0, norm_eq _ o k rfl hw (by omega) (by omega), bind_s]
    rw [val_take_ge o _ (by omega), val_take_ge a _ (Nat.le_refl _)] at hv
    rw [hv]
  | succ s ih =>
    intro i k o hs hi hk ho hw hz hv
    rw [Nat.succ_mul] at hk
    obtain ⟨k, rfl⟩ : ∃ m, k = m + 1 := ⟨k - 1, by omega⟩
    have i1 : a.length - (i + 1) = s := by omega
    have i2 : i + 1 ≤ a.length := by omega
    have g1 : (i : Int) < (a.length : Int) := by omega
    have hl : i + b.length + 1 ≤ L := by omega
    have hL3 : L < 70368744177664 := by omega
    have hF : (s * (b.length + 2) + L + 10) + b.length + 1 < k := by omega
    have e1 : i + 1 + b.length = i + b.length + 1 := by omega
    obtain ⟨p0, p1⟩ := ws_get ha i
    have ex := asNat p0
    have cs := col_step a b i
    generalize hxn : (a.getD i 0).toNat = x at *
    have x1 : x < 18446744073709551616 := Int.ofNat_lt.1 (ex ▸ p1)
    simp only [nat_number_mul.l0]
    rw [if_pos g1, if_pos (Int.natCast_nonneg _), if_pos g1, rd_nat, ex]
    refine nmul_inner a b hb i x L (s * (b.length + 2) + L + 10) (val (a.take i) * val b) _ x1 hl hL3 ?_ b.length 0 k o 0 rfl (Nat.zero_le _) hF ho hw (by decide) hz (by rw [hv]; simp [val])
    intro k' o' hk' ho' hw' hv' hz'
    refine ih (i + 1) k' o' i1 i2 hk' ho' hw' (by rw [e1]; exact hz') ?_
    rw [e1, hv', cs]
theorem nmul_eq (a b : List Int) (k : Nat) (ha : Ws a) (hb : Ws b) (hL : a.length + b.length < 35184372088832) (hk : a.length * (b.length + 2) + a.length + b.length + 10 < k) : nat_number_mul.f k a b = some (ofN (val a * val b)) := by
  unfold nat_number_mul.f
  have e : wrap64 ((a.length : Int) + (b.length : Int)) = ((a.length + b.length : Nat) : Int) := by rw [wrapS (by omega) (by omega)]; omega
  have c1 : a.length + b.length ≤ 35184372088832 := by omega
  have := nmul_outer a b ha hb _ rfl hL a.length 0 k (List.replicate (a.length + b.length) 0) rfl (Nat.zero_le _) (by omega) (by simp) (ws_replicate _) (fun m _ => getD_rep _ _) (by rw [List.take_zero, List.take_replicate, val_replicate]; simp [val])
  rw [e, if_pos (Int.natCast_nonneg _), Int.toNat_natCast, if_pos c1]
  exact this
end Go.Proofs.Ytdbhednhhmbooaa.Nf

namespace Go.Proofs.Ytdbhednhhmbooaa.Nf
open Go.RowKit Go.Proofs.Ytdbhednhhmbooaa.PAll Go.Proofs.YtdbhednhhmbooaaW.PrintWords Go.Proofs.YtdbhednhhmbooaaW.PrintLast Go.Proofs.YtdbhednhhmbooaaW.PrintMore Go.Proofs.Ytdbhednhhmbooaa.Nm
set_option linter.unusedVariables false
set_option linter.unusedSimpArgs false
theorem Norm_eq (a : List Int) (k : Nat) (ha : Ws a) (na : a.length < 17592186044000) (hk : a.length < k) : nat_Norm.f k a = some (if val a < big then (ofN (val a), 0) else ([], 3)) := by
  unfold nat_Norm.f
  rw [one_eq a k ha (by omega) (by omega), bind_s]
  by_cases h : val a < big
  · have hl := len_big h
    have ho := own_eq (ofN (val a)) (by omega)
    simp only [if_pos h]
    rw [if_pos trivial, ho, bind_s]
  · simp only [if_neg h]
    rw [if_neg (by decide)]
theorem nOf_eq (w k : Nat) (hw : w < 18446744073709551616) (hk : 1 < k) : nat_Of.f k w = some (ofN w) := by
  unfold nat_Of.f
  have : val [(w : Int)] = w := by simp [val]
  have l1 : (ofN w).length ≤ 1 := (ofN_len w 1).2 hw
  have ho := own_eq (ofN w) (by omega)
  rw [norm_eq 1 _ k rfl (ws_cons.2 ⟨by omega, ws_nil⟩) (by decide) hk, bind_s, this, ho, bind_s]
theorem len_eq (v k : Nat) (hl : (ofN v).length ≤ 1024) (hk : 1 < k) : nat_number_len.f k (ofN v) = some ((bl v : Nat) : Int) := by
  unfold nat_number_len.f
  by_cases h : v = 0
  · have := ofN_zero_iff.2 h
    rw [if_pos (by omega), h, bl_zero]; rfl
  · obtain ⟨m, w, h1, h2, h3, h4, h5⟩ := len_bl h
    have hb := bl_word h4
    have e1 : wrap64 (((ofN v).length : Int) - 1) = (m : Int) := by rw [wrapS (by omega) (by omega)]; omega
    have c0 : ¬ ((ofN v).length : Int) = 0 := by clear e1; omega
    have c1 : (m : Int) < ((ofN v).length : Int) := by clear e1; omega
    have e2 : wrap64 (64 * (m : Int)) = ((64 * m : Nat) : Int) := by clear e1; rw [wrapS (by omega) (by omega)]; omega
    have e3 : wrap64 (((64 * m : Nat) : Int) + ((bl w : Nat) : Int)) = ((64 * m + bl w : Nat) : Int) := by clear e1 e2; rw [wrapS (by omega) (by omega)]; omega
    rw [if_neg c0, e1, if_pos (Int.natCast_nonneg _), if_pos c1, rd_nat, h5, Len64_eq k w h4 hk, bind_s, e2, e3, h2]
end Go.Proofs.Ytdbhednhhmbooaa.Nf

namespace Go.Proofs.Ytdbhednhhmbooaa.Nm
set_option linter.unusedVariables false
theorem dig_down {M y y1 y0 u d q r : Nat} (hy : y = y1 * M + y0) (h0 : 0 < y) (e : q * y1 + r = u) (h : r * M + d < q * y0) : (u * M + d) / y < q := by
  rw [Nat.div_lt_iff_lt_mul h0]
  have e2 : q * y = q * y1 * M + q * y0 := by rw [hy, Nat.mul_add, Nat.mul_assoc]
  have e3 : u * M = q * y1 * M + r * M := by rw [← e, Nat.add_mul]
  rw [e2, e3]; omega
theorem dig_low {M y y1 y0 u d q r : Nat} (hy : y = y1 * M + y0) (h0 : 0 < y) (e : q * y1 + r = u) (h : q * y0 ≤ r * M + d) : q ≤ (u * M + d) / y := by
  rw [Nat.le_div_iff_mul_le h0]
  have e2 : q * y = q * y1 * M + q * y0 := by rw [hy, Nat.mul_add, Nat.mul_assoc]
  have e3 : u * M = q * y1 * M + r * M := by rw [← e, Nat.add_mul]
  rw [e2, e3]; omega
/-- Three words by two tell a digit, or one more than it. -/
theorem knuth {M K U u V v Q G : Nat} (hu : u < K) (hv : v < K) (hM : M ≤ V) (hG : G = min (M - 1) (U / V)) (hM0 : 0 < M) (hQ : Q = (U * K + u) / (V * K + v)) (hW : U * K + u < (V * K + v) * M) : Q ≤ G ∧ G ≤ Q + 1 := by
  have hK : 0 < K := by omega
  have hV : 0 < V := by omega
  have hVK : 0 < V * K := Nat.mul_pos hV hK
  have hVv : 0 < V * K + v := by omega
  have q1 : Q < M := by rw [hQ, Nat.div_lt_iff_lt_mul hVv, Nat.mul_comm M]; exact hW
  have q2 : Q * (V * K + v) ≤ U * K + u := by rw [hQ]; exact Nat.div_mul_le_self _ _
  have q3 : U * K + u < (Q + 1) * (V * K + v) := by
    have := Nat.lt_mul_div_succ (U * K + u) hVv
    rw [← hQ] at this
    rw [Nat.mul_comm (Q + 1)]; exact this
  constructor
  · have a : Q * V * K ≤ Q * (V * K + v) := by rw [Nat.mul_add, ← Nat.mul_assoc]; omega
    have b : Q * V * K < (U + 1) * K := by rw [Nat.add_mul, Nat.one_mul]; omega
    have c : Q * V < U + 1 := Nat.lt_of_mul_lt_mul_right b
    have d : Q ≤ U / V := (Nat.le_div_iff_mul_le hV).2 (by omega)
    rw [hG]; omega
  · apply Classical.byContradiction
    intro hc
    obtain ⟨g, rfl⟩ : ∃ g, G = g + 1 := ⟨G - 1, by omega⟩
    have g1 : (g + 1) ≤ U / V := by rw [hG]; exact Nat.min_le_right _ _
    have g2 : (g + 1) * V ≤ U := (Nat.le_div_iff_mul_le hV).1 g1
    have g3 : g + 1 ≤ M - 1 := by rw [hG]; exact Nat.min_le_left _ _
    have a : (Q + 1) * (V * K + v) ≤ g * (V * K + v) := Nat.mul_le_mul_right _ (by omega)
    have b : g * (V * K + v) = g * V * K + g * v := by rw [Nat.mul_add, Nat.mul_assoc]
    have c : g * v ≤ M * K := Nat.mul_le_mul (by omega) (by omega)
    have d : M * K ≤ V * K := Nat.mul_le_mul_right _ hM
    have e : (g + 1) * V * K ≤ U * K := Nat.mul_le_mul_right _ g2
    rw [Nat.add_mul, Nat.one_mul, Nat.add_mul] at e
    omega
/-- What is taken away with a digit, and given back where it was one too many. -/
theorem less_back {W V G Q E r b r' c : Nat} (hV : 0 < V) (hQ : Q = W / V) (h1 : Q ≤ G) (h2 : G ≤ Q + 1) (hVE : V ≤ E) (hb : b ≤ 1) (e : r + G * V = W + E * b) (hr : r < E) (e2 : r' + E * c = r + V) (hr' : r' < E) :
    (b = 0 → G = Q ∧ r = W % V) ∧ (b = 1 → G = Q + 1 ∧ r' = W % V) := by
  have hm := Nat.div_add_mod W V
  have hl := Nat.mod_lt W hV
  rw [← hQ, Nat.mul_comm] at hm
  constructor
  · intro h
    subst h
    rcases Nat.lt_or_ge Q G with h | h
    · have hG : G = Q + 1 := by omega
      subst hG
      rw [Nat.add_mul, Nat.one_mul] at e; omega
    · have hG : G = Q := by omega
      subst hG; omega
  · intro h
    subst h
    rcases Nat.lt_or_ge Q G with h | h
    · have hG : G = Q + 1 := by omega
      subst hG
      refine ⟨rfl, ?_⟩
      rw [Nat.add_mul, Nat.one_mul] at e
      have hc : c = 1 := by
        match c with
        | 0 => omega
        | 1 => rfl
        | c + 2 => rw [Nat.mul_add] at e2; omega
      subst hc; omega
    · have hG : G = Q := by omega
      subst hG; omega
theorem less_lin {P vo vu vd n c b u w s l c' b' : Nat} (e1 : vo + n * vd = vu + P * (c + b)) (e2 : u + 18446744073709551616 * b' = s + l + b) (e3 : l + 18446744073709551616 * c' = w * n + c) : vo + P * s + n * (vd + P * w) = vu + P * u + P * 18446744073709551616 * (c' + b') := by
  have f2 : P * (u + 18446744073709551616 * b') = P * (s + l + b) := by rw [e2]
  have f3 : P * (l + 18446744073709551616 * c') = P * (w * n + c) := by rw [e3]
  have f4 : n * (P * w) = P * (w * n) := by rw [Nat.mul_left_comm, Nat.mul_comm n w]
  rw [Nat.mul_add, Nat.mul_add, Nat.mul_add] at f2
  rw [Nat.mul_add, Nat.mul_add] at f3
  rw [Nat.mul_add] at e1
  rw [Nat.mul_assoc P, Nat.mul_add 18446744073709551616, Nat.mul_add P, Nat.mul_add n, f4]
  omega
theorem less_end {P vo vu vd n c b u s b' : Nat} (e1 : vo + n * vd = vu + P * (c + b)) (e2 : u + 18446744073709551616 * b' = s + c + b) : vo + P * s + n * vd = vu + P * u + P * 18446744073709551616 * b' := by
  have f2 : P * (u + 18446744073709551616 * b') = P * (s + c + b) := by rw [e2]
  rw [Nat.mul_add, Nat.mul_add, Nat.mul_add] at f2
  rw [Nat.mul_add] at e1
  rw [Nat.mul_assoc P]
  omega
end Go.Proofs.Ytdbhednhhmbooaa.Nm

namespace Go.Proofs.Ytdbhednhhmbooaa.Nf
open Go.RowKit Go.Proofs.Ytdbhednhhmbooaa.PAll Go.Proofs.YtdbhednhhmbooaaW.PrintWords Go.Proofs.YtdbhednhhmbooaaW.PrintLast Go.Proofs.YtdbhednhhmbooaaW.PrintMore Go.Proofs.Ytdbhednhhmbooaa.Nm
set_option linter.unusedVariables false
set_option linter.unusedSimpArgs false
theorem less_loop (u d : List Int) (hu : Ws u) (hd : Ws d) (n : Nat) (hn : n < 18446744073709551616) (hl : u.length = d.length + 1) (nd : d.length < 35184372088832) (s : Nat) : ∀ (i k : Nat) (o : List Int) (c b : Nat), d.length - i = s → i ≤ d.length → s < k → o.length = u.length → Ws o → c < 18446744073709551616 → b ≤ 1 → (∀ m, i ≤ m → o.getD m 0 = u.getD m 0) →
    val (o.take i) + n * val (d.take i) = val (u.take i) + 18446744073709551616 ^ i * (c + b) →
    ∃ (b' : Nat) (r : List Int), nat_number_less.l0 k o d n c b d d.length i = some (decide (b' > 0), r) ∧ b' ≤ 1 ∧ r.length = u.length ∧ Ws r ∧ val r + n * val d = val u + 18446744073709551616 ^ u.length * b' := by
  induction s with
  | zero =>
    intro i k o c b hs hi hk ho hw hc hb hz hv
    obtain ⟨k, rfl⟩ : ∃ m, k = m + 1 := ⟨k - 1, by omega⟩
    obtain rfl : i = d.length := by omega
    have g0 : ¬ ((d.length : Int) < (d.length : Int)) := by omega
    have g1 : (d.length : Int) < (o.length : Int) := by omega
    have g2 : (b : Int) ≤ 1 := by omega
    have i1 : d.length < o.length := by omega
    obtain ⟨p0, p1⟩ := ws_get hu d.length
    have hzm := hz d.length (Nat.le_refl _)
    obtain ⟨b', hb', eb, ew⟩ := sub_word (x := u.getD d.length 0) (y := (c : Int)) (c := b) p0 p1 (Int.natCast_nonneg _) (Int.ofNat_lt.2 hc) hb
    have slo := s64s_lo (u.getD d.length 0) (c : Int) (b : Int)
    have shi := s64s_hi (u.getD d.length 0) (c : Int) (b : Int)
    rw [Int.toNat_natCast] at ew
    refine ⟨b', o.set d.length (sub64s (u.getD d.length 0) (c : Int) (b : Int)), ?_, hb', by rw [List.length_set]; exact ho, ws_set hw _ slo shi, ?_⟩
    · simp only [nat_number_less.l0]
      rw [if_neg g0, if_pos (Int.natCast_nonneg _), if_pos g1, if_pos g2, rd_nat, hzm, Int.toNat_natCast, eb]
      congr 2
      rw [decide_eq_decide]; omega
    · have e := val_set_take o d.length (sub64s (u.getD d.length 0) (c : Int) (b : Int)) i1
      rw [val_take_ge _ (d.length + 1) (by rw [List.length_set]; omega)] at e
      have eu := val_take_succ u d.length (by omega)
      rw [val_take_ge u _ (by omega)] at eu
      rw [val_take_ge d _ (Nat.le_refl _)] at hv
      rw [e, eu, hl, Nat.pow_succ]
      exact less_end hv ew
  | succ s ih =>
    intro i k o c b hs hi hk ho hw hc hb hz hv
    obtain ⟨k, rfl⟩ : ∃ m, k = m + 1 := ⟨k - 1, by omega⟩
    have i1 : d.length - (i + 1) = s := by omega
    have i2 : i + 1 ≤ d.length := by omega
    have i3 : s < k := by omega
    have i4 : i < o.length := by omega
    have g0 : (i : Int) < (d.length : Int) := by omega
    have g1 : (i : Int) < (o.length : Int) := by omega
    have g2 : (b : Int) ≤ 1 := by omega
    have b3 : i < 4611686018427387904 := by omega
    have hzi := hz i (Nat.le_refl _)
    have tu := take_succ_getD u i
    have td := take_succ_getD d i
    obtain ⟨p0, p1⟩ := ws_get hu i
    obtain ⟨q0, q1⟩ := ws_get hd i
    have ed := asNat q0
    generalize hwn : (d.getD i 0).toNat = w at *
    have w1 : w < 18446744073709551616 := Int.ofNat_lt.1 (ed ▸ q1)
    have hbd := mul_bound (o := 0) (c := c) (x := w) (y := n) (by decide) hc w1 hn
    rw [Nat.zero_add] at hbd
    obtain ⟨m1, m2⟩ := mac_lin (o := c) (c := 0) (p := w * n) (h := w * n / 18446744073709551616) (l := w * n % 18446744073709551616) (by omega) (Nat.mod_lt _ (by decide))
    have c1 : (w * n % 18446744073709551616 + c) % 18446744073709551616 < 18446744073709551616 := Nat.mod_lt _ (by decide)
    have c2 : w * n / 18446744073709551616 + (w * n % 18446744073709551616 + c) / 18446744073709551616 < 18446744073709551616 := by
      have : (c + w * n) / 18446744073709551616 = w * n / 18446744073709551616 + (w * n % 18446744073709551616 + c) / 18446744073709551616 := by omega
      omega
    have c3 : (w * n % 18446744073709551616 + c) % 18446744073709551616 + 18446744073709551616 * (w * n / 18446744073709551616 + (w * n % 18446744073709551616 + c) / 18446744073709551616) = w * n + c := by omega
    clear m1 m2 hbd
    generalize hL : (w * n % 18446744073709551616 + c) % 18446744073709551616 = L at *
    obtain ⟨b', hb', eb, ew⟩ := sub_word (x := u.getD i 0) (y := (L : Int)) (c := b) p0 p1 (Int.natCast_nonneg _) (Int.ofNat_lt.2 c1) hb
    have slo := s64s_lo (u.getD i 0) (L : Int) (b : Int)
    have shi := s64s_hi (u.getD i 0) (L : Int) (b : Int)
    rw [Int.toNat_natCast] at ew
    have s1 : add64s ((w * n % 18446744073709551616 : Nat) : Int) (c : Int) 0 = (L : Int) := by
      rw [a64s]; simp only [Int.toNat_natCast, Int.toNat_zero, Nat.add_zero]; rw [hL]
    have s2 : add64c ((w * n % 18446744073709551616 : Nat) : Int) (c : Int) 0 = (((w * n % 18446744073709551616 + c) / 18446744073709551616 : Nat) : Int) := by
      rw [a64c]; simp only [Int.toNat_natCast, Int.toNat_zero, Nat.add_zero]
    simp only [nat_number_less.l0]
    rw [if_pos g0, if_pos (Int.natCast_nonneg _), if_pos g0, rd_nat, ed, Mul64_eq w n w1 hn, bind_s, if_pos g1, if_pos g2, rd_nat, hzi]
    dsimp only
    rw [s1, s2, wrapN2 c2, eb, wrap_succ b3, Int.toNat_natCast]
    refine ih (i + 1) k _ _ b' i1 i2 i3 (by rw [List.length_set]; exact ho) (ws_set hw _ slo shi) c2 hb' ?_ ?_
    · intro m hm
      rw [Nm.getD_set_ne _ _ _ _ (Nat.ne_of_lt hm)]
      exact hz m (Nat.le_of_succ_le hm)
    · rw [val_set_take o _ _ i4, td, tu, Nat.pow_succ]
      exact less_lin hv ew c3
theorem less_eq (u d : List Int) (hu : Ws u) (hd : Ws d) (n k : Nat) (hn : n < 18446744073709551616) (hl : u.length = d.length + 1) (nd : d.length < 35184372088832) (hk : d.length < k) :
    ∃ (b : Nat) (r : List Int), nat_number_less.f k u d n = some (decide (b > 0), r) ∧ b ≤ 1 ∧ r.length = u.length ∧ Ws r ∧ val r + n * val d = val u + 18446744073709551616 ^ u.length * b := by
  unfold nat_number_less.f
  exact less_loop u d hu hd n hn hl nd _ 0 k u 0 0 rfl (Nat.zero_le _) hk rfl hu (by decide) (by decide) (fun _ _ => rfl) (by simp [val])
theorem back_loop (u d : List Int) (hu : Ws u) (hd : Ws d) (hl : u.length = d.length + 1) (nd : d.length < 35184372088832) (s : Nat) : ∀ (i k : Nat) (o : List Int) (c : Nat), d.length - i = s → i ≤ d.length → s < k → o.length = u.length → Ws o → c ≤ 1 → (∀ m, i ≤ m → o.getD m 0 = u.getD m 0) →
    val (o.take i) + 18446744073709551616 ^ i * c = val (u.take i) + val (d.take i) →
    ∃ (c' : Nat) (r : List Int), nat_number_back.l0 k o d c d d.length i = some r ∧ r.length = u.length ∧ Ws r ∧ val r + 18446744073709551616 ^ u.length * c' = val u + val d := by
  induction s with
  | zero =>
    intro i k o c hs hi hk ho hw hc hz hv
    obtain ⟨k, rfl⟩ : ∃ m, k = m + 1 := ⟨k - 1, by omega⟩
    obtain rfl : i = d.length := by omega
    have g0 : ¬ ((d.length : Int) < (d.length : Int)) := by omega
    have g1 : (d.length : Int) < (o.length : Int) := by omega
    have i1 : d.length < o.length := by omega
    obtain ⟨p0, p1⟩ := ws_get hu d.length
    have hzm := hz d.length (Nat.le_refl _)
    have eu := val_take_succ u d.length (by omega)
    rw [val_take_ge u _ (by omega)] at eu
    rw [val_take_ge d _ (Nat.le_refl _)] at hv
    have ew := asNat p0
    generalize hwn : (u.getD d.length 0).toNat = w at *
    have c1 : (w + c) % 18446744073709551616 < 18446744073709551616 := Nat.mod_lt _ (by decide)
    have c2 : (w + c) % 18446744073709551616 + 18446744073709551616 * ((w + c) / 18446744073709551616) = w + c := Nat.mod_add_div _ _
    refine ⟨(w + c) / 18446744073709551616, o.set d.length (((w + c) % 18446744073709551616 : Nat) : Int), ?_, by rw [List.length_set]; exact ho, ws_set hw _ (Int.natCast_nonneg _) (Int.ofNat_lt.2 c1), ?_⟩
    · simp only [nat_number_back.l0]
      rw [if_neg g0, if_pos (Int.natCast_nonneg _), if_pos g1, rd_nat, hzm, ew, wrapM, Int.toNat_natCast]
    · have e := val_set_take o d.length (((w + c) % 18446744073709551616 : Nat) : Int) i1
      rw [val_take_ge _ (d.length + 1) (by rw [List.length_set]; omega), Int.toNat_natCast] at e
      rw [e, eu, hl, Nat.pow_succ]
      have f : 18446744073709551616 ^ d.length * ((w + c) % 18446744073709551616 + 18446744073709551616 * ((w + c) / 18446744073709551616)) = 18446744073709551616 ^ d.length * (w + c) := by rw [c2]
      rw [Nat.mul_add, Nat.mul_add, ← Nat.mul_assoc] at f
      omega
  | succ s ih =>
    intro i k o c hs hi hk ho hw hc hz hv
    obtain ⟨k, rfl⟩ : ∃ m, k = m + 1 := ⟨k - 1, by omega⟩
    have i1 : d.length - (i + 1) = s := by omega
    have i2 : i + 1 ≤ d.length := by omega
    have i3 : s < k := by omega
    have i4 : i < o.length := by omega
    have g0 : (i : Int) < (d.length : Int) := by omega
    have g1 : (i : Int) < (o.length : Int) := by omega
    have g2 : (c : Int) ≤ 1 := by omega
    have b3 : i < 4611686018427387904 := by omega
    have hzi := hz i (Nat.le_refl _)
    have tu := take_succ_getD u i
    have td := take_succ_getD d i
    obtain ⟨p0, p1⟩ := ws_get hu i
    obtain ⟨q0, q1⟩ := ws_get hd i
    obtain ⟨c', hc', ed⟩ := a64c_bd (x := u.getD i 0) (y := d.getD i 0) (c := c) p1 q1 hc
    have hs' : (add64s (u.getD i 0) (d.getD i 0) c).toNat + 18446744073709551616 * c' = (u.getD i 0).toNat + (d.getD i 0).toNat + c := by
      rw [a64s]; rw [a64c] at ed
      simp only [Int.toNat_natCast] at ed ⊢
      omega
    simp only [nat_number_back.l0]
    rw [if_pos g0, if_pos (Int.natCast_nonneg _), if_pos g0, if_pos g1, if_pos g2, rd_nat, rd_nat, hzi, ed, wrap_succ b3, Int.toNat_natCast]
    refine ih (i + 1) k _ c' i1 i2 i3 (by rw [List.length_set]; exact ho) (ws_set hw _ (a64s_lo _ _ _) (a64s_hi _ _ _)) hc' ?_ ?_
    · intro m hm
      rw [Nm.getD_set_ne _ _ _ _ (Nat.ne_of_lt hm)]
      exact hz m (Nat.le_of_succ_le hm)
    · rw [val_set_take o _ _ i4, td, tu, Nat.pow_succ]
      exact add_step hs' hv
theorem back_eq (u d : List Int) (hu : Ws u) (hd : Ws d) (k : Nat) (hl : u.length = d.length + 1) (nd : d.length < 35184372088832) (hk : d.length < k) :
    ∃ (c : Nat) (r : List Int), nat_number_back.f k u d = some r ∧ r.length = u.length ∧ Ws r ∧ val r + 18446744073709551616 ^ u.length * c = val u + val d := by
  unfold nat_number_back.f
  exact back_loop u d hu hd hl nd _ 0 k u 0 rfl (Nat.zero_le _) hk rfl hu (by decide) (fun _ _ => rfl) (by simp [val])
theorem hi_lo_test {g e r c : Nat} (hc : c < 18446744073709551616) : (g * e ≤ r * 18446744073709551616 + c) ↔ (g * e / 18446744073709551616 < r ∨ (g * e / 18446744073709551616 = r ∧ g * e % 18446744073709551616 ≤ c)) := by
  generalize g * e = p
  omega
theorem digit_loop {y d e u c Q : Nat} (hy : y = d * 18446744073709551616 + e) (hd : 9223372036854775808 ≤ d) (hd' : d < 18446744073709551616) (he : e < 18446744073709551616) (hc : c < 18446744073709551616) (hQ : Q = min 18446744073709551615 ((u * 18446744073709551616 + c) / y)) (n : Nat) : ∀ (k g r : Nat), g * d + r = u → Q ≤ g → g < 18446744073709551616 → r < 18446744073709551616 → 18446744073709551616 ≤ r + n * 9223372036854775808 → 2 * n < k →
    nat_digit.l0 k c d e g r = some (Q : Int) := by
  induction n with
  | zero => intro k g r _ _ _ hr hn _; omega
  | succ n ih =>
    intro k g r hg hq hg2 hr hn hk
    obtain ⟨k, rfl⟩ : ∃ m, k = m + 2 := ⟨k - 2, by omega⟩
    have hyp : 0 < y := by omega
    have t := hi_lo_test (g := g) (e := e) (r := r) hc
    have pass : g * e ≤ r * 18446744073709551616 + c → g = Q := fun h => by
      have := dig_low (d := c) hy hyp hg h
      omega
    have fin : (g * e ≤ r * 18446744073709551616 + c) → nat_digit.j2 (k + 1) c d e g r true = some (Q : Int) := fun h => by
      simp only [nat_digit.j2]; rw [if_pos trivial, pass h]
    have fail : ¬ (g * e ≤ r * 18446744073709551616 + c) → nat_digit.j2 (k + 1) c d e g r false = some (Q : Int) := fun h => by
      have lt := dig_down (d := c) hy hyp hg (by omega)
      have g0 : 0 < g := Nat.zero_lt_of_lt lt
      have e2 := dec_mul g0 hg
      have i1 : Q ≤ g - 1 := by omega
      have ex : 18446744073709551616 ≤ r + d → g - 1 = Q := fun h2 => by
        have hz : (g - 1) * e ≤ 18446744073709551616 * 18446744073709551616 := Nat.mul_le_mul (by omega) (by omega)
        have := dig_low (q := g - 1) (r := r + d) (d := c) hy hyp e2 (by
          have : 18446744073709551616 * 18446744073709551616 ≤ (r + d) * 18446744073709551616 := Nat.mul_le_mul_right _ h2
          omega)
        omega
      have i2 : g - 1 < 18446744073709551616 := by omega
      have i4 : 18446744073709551616 ≤ r + d + n * 9223372036854775808 := by omega
      have i5 : 2 * n < k := by omega
      have s1 : add64s (r : Int) (d : Int) 0 = (((r + d) % 18446744073709551616 : Nat) : Int) := by
        rw [a64s]; simp only [Int.toNat_natCast, Int.toNat_zero, Nat.add_zero]
      have s2 : add64c (r : Int) (d : Int) 0 = (((r + d) / 18446744073709551616 : Nat) : Int) := by
        rw [a64c]; simp only [Int.toNat_natCast, Int.toNat_zero, Nat.add_zero]
      simp only [nat_digit.j2]
      rw [if_neg (by decide), s1, s2, wrap_dec g0 hg2]
      by_cases h2 : 18446744073709551616 ≤ r + d
      · rw [if_pos (by clear s1 s2; omega), ex h2]
      · have m1 : (r + d) % 18446744073709551616 = r + d := Nat.mod_eq_of_lt (by omega)
        rw [if_neg (by clear s1 s2; omega), m1]
        exact ih k (g - 1) (r + d) e2 i1 i2 (by clear s1 s2; omega) i4 i5
    have w1 : g < 18446744073709551616 := hg2
    simp only [nat_digit.l0]
    rw [Mul64_eq g e w1 he, bind_s]
    dsimp only
    generalize g * e / 18446744073709551616 = H at *
    generalize g * e % 18446744073709551616 = L at *
    by_cases h1 : H < r
    · rw [if_pos (Int.ofNat_lt.2 h1)]
      exact fin (t.2 (.inl h1))
    · rw [if_neg (fun h => h1 (Int.ofNat_lt.1 h))]
      by_cases h2 : H = r
      · rw [if_pos (congrArg Nat.cast h2)]
        by_cases h3 : L ≤ c
        · rw [decide_eq_true (Int.ofNat_le.2 h3)]
          exact fin (t.2 (.inr ⟨h2, h3⟩))
        · rw [decide_eq_false (fun h => h3 (Int.ofNat_le.1 h))]
          exact fail (fun h => (t.1 h).elim h1 (fun h => h3 h.2))
      · rw [if_neg (show ¬ (H : Int) = (r : Int) from fun h => h2 (Int.ofNat.inj h))]
        exact fail (fun h => (t.1 h).elim h1 (fun h => h2 h.1))
/-- A digit of three words by two. -/
theorem digit_eq (k a b c d e : Nat) (hd : 9223372036854775808 ≤ d) (hd' : d < 18446744073709551616) (hb : b < 18446744073709551616) (hc : c < 18446744073709551616) (he : e < 18446744073709551616) (ha : a ≤ d) (hk : 60 < k) :
    nat_digit.f k a b c d e = some ((min 18446744073709551615 (((a * 18446744073709551616 + b) * 18446744073709551616 + c) / (d * 18446744073709551616 + e)) : Nat) : Int) := by
  unfold nat_digit.f
  obtain ⟨k, rfl⟩ : ∃ m, k = m + 1 := ⟨k - 1, by omega⟩
  obtain ⟨y, hy⟩ : ∃ y, y = d * 18446744073709551616 + e := ⟨_, rfl⟩
  obtain ⟨u, hu⟩ : ∃ u, u = a * 18446744073709551616 + b := ⟨_, rfl⟩
  obtain ⟨Q, hQ⟩ : ∃ Q, Q = min 18446744073709551615 ((u * 18446744073709551616 + c) / y) := ⟨_, rfl⟩
  rw [← hy, ← hu, ← hQ]
  have hyp : 0 < y := by omega
  by_cases h : a < d
  · have hq := word_div_lt h hb
    have hm : (a * 18446744073709551616 + b) % d < d := Nat.mod_lt _ (by omega)
    have hdm := Nat.div_add_mod (a * 18446744073709551616 + b) d
    rw [if_pos (Int.ofNat_lt.2 h), Div64_eq (k + 1) a b d h hb hd' (by omega), bind_s]
    dsimp only
    simp only [nat_digit.j0]
    rw [← hu] at hq hm hdm ⊢
    refine digit_loop hy hd hd' he hc hQ 3 k _ _ (by rw [Nat.mul_comm]; exact hdm) ?_ hq (by omega) (by omega) (by omega)
    rw [hQ]
    refine Nat.le_trans (Nat.min_le_right _ _) ?_
    rw [← Nat.lt_succ_iff, Nat.div_lt_iff_lt_mul hyp]
    have f1 : u < d * (u / d + 1) := Nat.lt_mul_div_succ u (by omega)
    have f2 : (u + 1) * 18446744073709551616 ≤ d * (u / d + 1) * 18446744073709551616 := Nat.mul_le_mul_right _ f1
    have f3 : (u / d + 1) * y = d * (u / d + 1) * 18446744073709551616 + (u / d + 1) * e := by rw [hy, Nat.mul_add, ← Nat.mul_assoc, Nat.mul_comm (u / d + 1) d]
    have : u * 18446744073709551616 + c < (u / d + 1) * y := by rw [f3]; omega
    exact this
  · have had : a = d := by omega
    subst had
    have s1 : add64s (b : Int) (a : Int) 0 = (((b + a) % 18446744073709551616 : Nat) : Int) := by
      rw [a64s]; simp only [Int.toNat_natCast, Int.toNat_zero, Nat.add_zero]
    have s2 : add64c (b : Int) (a : Int) 0 = (((b + a) / 18446744073709551616 : Nat) : Int) := by
      rw [a64c]; simp only [Int.toNat_natCast, Int.toNat_zero, Nat.add_zero]
    have e0 : 18446744073709551615 * a + (b + a) = u := by omega
    rw [if_neg (fun h2 => h (Int.ofNat_lt.1 h2)), s1, s2]
    by_cases h2 : 18446744073709551616 ≤ b + a
    · have hz : 18446744073709551615 * e ≤ (b + a) * 18446744073709551616 + c := by
        have : 18446744073709551616 * 18446744073709551616 ≤ (b + a) * 18446744073709551616 := Nat.mul_le_mul_right _ h2
        omega
      have := dig_low (d := c) hy hyp e0 hz
      have hQ2 : Q = 18446744073709551615 := by omega
      rw [if_pos (by clear s1 s2; omega), hQ2]; rfl
    · have m1 : (b + a) % 18446744073709551616 = b + a := Nat.mod_eq_of_lt (by omega)
      rw [if_neg (by clear s1 s2; omega), m1]
      simp only [nat_digit.j0]
      exact digit_loop hy hd hd' he hc hQ 3 k 18446744073709551615 (b + a) e0 (by rw [hQ]; exact Nat.min_le_left _ _) (by decide) (by clear s1 s2; omega) (by clear s1 s2; omega) (by omega)
end Go.Proofs.Ytdbhednhhmbooaa.Nf

namespace Go.Proofs.Ytdbhednhhmbooaa.Nf
open Go.RowKit Go.Proofs.Ytdbhednhhmbooaa.PAll Go.Proofs.YtdbhednhhmbooaaW.PrintWords Go.Proofs.YtdbhednhhmbooaaW.PrintLast Go.Proofs.YtdbhednhhmbooaaW.PrintMore Go.Proofs.Ytdbhednhhmbooaa.Nm
set_option linter.unusedVariables false
set_option linter.unusedSimpArgs false
/-- The words of a window, as a number: its two highest, and the rest. -/
theorem window (U : List Int) (hU : Ws U) (j n : Nat) (hn : 2 ≤ n) (hl : j + n < U.length) : val ((U.take (j + n + 1)).drop j) =
    (((U.getD (j + n) 0).toNat * 18446744073709551616 + (U.getD (j + n - 1) 0).toNat) * 18446744073709551616 + (U.getD (j + n - 2) 0).toNat) * 18446744073709551616 ^ (n - 2) + val ((U.take (j + n - 2)).drop j) ∧ val ((U.take (j + n - 2)).drop j) < 18446744073709551616 ^ (n - 2) := by
  obtain ⟨m, rfl⟩ : ∃ m, n = m + 2 := ⟨n - 2, by omega⟩
  have e1 : j + (m + 2) - 1 = j + m + 1 := by omega
  have e2 : j + (m + 2) - 2 = j + m := by omega
  have e3 : m + 2 - 2 = m := by omega
  have e4 : j + (m + 2) = j + m + 2 := by omega
  rw [e1, e2, e3, e4]
  have st : ∀ i, j ≤ i → i < U.length → val ((U.take (i + 1)).drop j) = val ((U.take i).drop j) + 18446744073709551616 ^ (i - j) * (U.getD i 0).toNat := by
    intro i hi hl
    rw [List.take_succ_eq_append_getElem hl, List.drop_append_of_le_length (by rw [List.length_take]; omega), val_append, List.length_drop, List.length_take, Nat.min_eq_left (by omega), List.getD_eq_getElem?_getD, List.getElem?_eq_getElem hl]
    simp [val]
  constructor
  · have s1 := st (j + m + 2) (by omega) (by omega)
    have s2 := st (j + m + 1) (by omega) (by omega)
    have s3 := st (j + m) (by omega) (by omega)
    have f1 : j + m + 2 - j = m + 2 := by omega
    have f2 : j + m + 1 - j = m + 1 := by omega
    have f3 : j + m - j = m := by omega
    rw [f1] at s1
    rw [f2] at s2
    rw [f3] at s3
    have hp2 : 18446744073709551616 ^ (m + 2) = 18446744073709551616 ^ m * (18446744073709551616 * 18446744073709551616) := by rw [Nat.pow_succ, Nat.pow_succ, Nat.mul_assoc]
    rw [s1, s2, s3, hp2, Nat.pow_succ]
    clear hp2 s1 s2 s3
    generalize (U.getD (j + m + 2) 0).toNat = a
    generalize (U.getD (j + m + 1) 0).toNat = b
    generalize (U.getD (j + m) 0).toNat = c
    generalize val ((U.take (j + m)).drop j) = v
    generalize 18446744073709551616 ^ m = P
    rw [Nat.add_mul, Nat.add_mul, Nat.add_mul, Nat.mul_assoc P, Nat.mul_assoc P, Nat.mul_comm c P]
    have g0 : a * 18446744073709551616 * 18446744073709551616 = 18446744073709551616 * 18446744073709551616 * a := by omega
    have g1 : a * 18446744073709551616 * 18446744073709551616 * P = P * (18446744073709551616 * 18446744073709551616 * a) := by rw [g0, Nat.mul_comm]
    have g2 : b * 18446744073709551616 * P = P * (18446744073709551616 * b) := by rw [Nat.mul_comm _ P, Nat.mul_comm b]
    rw [g1, g2]
    have g3 : P * (18446744073709551616 * 18446744073709551616) * a = P * (18446744073709551616 * 18446744073709551616 * a) := by rw [Nat.mul_assoc]
    have g4 : P * 18446744073709551616 * b = P * (18446744073709551616 * b) := by rw [Nat.mul_assoc]
    omega
  · have h := val_lt (ws_drop (ws_take hU (j + m)) j)
    rw [List.length_drop, List.length_take, Nat.min_eq_left (by omega)] at h
    have : j + m - j = m := by omega
    rw [this] at h; exact h
end Go.Proofs.Ytdbhednhhmbooaa.Nf

namespace Go.Proofs.Ytdbhednhhmbooaa.Nf
open Go.RowKit Go.Proofs.Ytdbhednhhmbooaa.PAll Go.Proofs.YtdbhednhhmbooaaW.PrintWords Go.Proofs.YtdbhednhhmbooaaW.PrintLast Go.Proofs.YtdbhednhhmbooaaW.PrintMore Go.Proofs.Ytdbhednhhmbooaa.Nm
set_option linter.unusedVariables false
set_option linter.unusedSimpArgs false
theorem view_again (A r R : List Int) (j h : Nat) (hA : A.length = j) (hr : j + r.length = h) : ((A ++ r ++ R).take h).drop j = r ∧ (A ++ r ++ R).take j = A ∧ (A ++ r ++ R).drop h = R := by
  subst hA hr
  have e : A.length + r.length = (A ++ r).length := by simp
  refine ⟨?_, ?_, ?_⟩
  · rw [e, List.take_left, List.drop_left]
  · rw [List.append_assoc, List.take_left]
  · rw [e, List.drop_left]
theorem view_split (U : List Int) (j h : Nat) (hj : j ≤ h) (hh : h ≤ U.length) : U = U.take j ++ (U.take h).drop j ++ U.drop h := by
  have e : U.take j = (U.take h).take j := by rw [List.take_take]; congr 1; omega
  rw [e, List.take_append_drop, List.take_append_drop]
/-- The two highest words of a number. -/
theorem top_two (d : List Int) (hd : Ws d) (n : Nat) (hn : 2 ≤ n) (hl : d.length = n) : val d = ((d.getD (n - 1) 0).toNat * 18446744073709551616 + (d.getD (n - 2) 0).toNat) * 18446744073709551616 ^ (n - 2) + val (d.take (n - 2)) ∧ val (d.take (n - 2)) < 18446744073709551616 ^ (n - 2) := by
  obtain ⟨m, rfl⟩ : ∃ m, n = m + 2 := ⟨n - 2, by omega⟩
  have e1 : m + 2 - 1 = m + 1 := by omega
  have e3 : m + 2 - 2 = m := by omega
  rw [e1, e3]
  refine ⟨?_, val_take_lt hd m⟩
  have s1 := val_take_succ d (m + 1) (by omega)
  have s2 := val_take_succ d m (by omega)
  rw [val_take_ge d _ (by omega)] at s1
  rw [s1, s2, Nat.pow_succ]
  generalize (d.getD (m + 1) 0).toNat = a
  generalize (d.getD m 0).toNat = b
  generalize val (d.take m) = v
  generalize 18446744073709551616 ^ m = P
  rw [Nat.add_mul, Nat.mul_comm b P, Nat.mul_comm (a * 18446744073709551616) P, Nat.mul_comm a, ← Nat.mul_assoc P]
  omega
theorem step_sum {A P W V Q R q : Nat} (h : W = Q * V + R) : A + P * R + V * (P * (Q + 18446744073709551616 * q)) = A + P * W + V * (P * 18446744073709551616 * q) := by
  subst h
  rw [Nat.mul_add, Nat.mul_add, Nat.mul_add, ← Nat.mul_assoc P 18446744073709551616 q]
  have e : P * (Q * V) = V * (P * Q) := by rw [Nat.mul_comm Q V, Nat.mul_left_comm]
  rw [e]; omega
/-- One digit: what the call of digit, less and back make of a window. -/
theorem digit_step (U d : List Int) (hU : Ws U) (hd : Ws d) (n j k : Nat) (hn : 2 ≤ n) (hl : d.length = n) (hj : j + n < U.length) (nU : U.length < 35184372088832) (htop : 9223372036854775808 ≤ (d.getD (n - 1) 0).toNat) (hlt : val (U.drop (j + 1)) < val d) (hk : n + 100 < k) :
    ∃ (G Q : Nat) (b : Nat) (r : List Int), nat_digit.f k (U.getD (j + n) 0) (U.getD (j + n - 1) 0) (U.getD (j + n - 2) 0) (d.getD (n - 1) 0) (d.getD (n - 2) 0) = some (G : Int) ∧ G < 18446744073709551616 ∧
      nat_number_lessAt.f k U j ((j + n + 1 : Nat) : Int) d G = some (decide (b > 0), U.take j ++ r ++ U.drop (j + n + 1)) ∧ b ≤ 1 ∧ r.length = n + 1 ∧ Ws r ∧
      val (U.drop j) = val ((U.take (j + n + 1)).drop j) ∧ val (U.drop (j + n + 1)) = 0 ∧ Q = val ((U.take (j + n + 1)).drop j) / val d ∧
      (b = 0 → G = Q ∧ val r = val ((U.take (j + n + 1)).drop j) % val d) ∧
      (b = 1 → G = Q + 1 ∧ ∃ r', nat_number_backAt.f k (U.take j ++ r ++ U.drop (j + n + 1)) j ((j + n + 1 : Nat) : Int) d = some (U.take j ++ r' ++ U.drop (j + n + 1)) ∧ r'.length = n + 1 ∧ Ws r' ∧ val r' = val ((U.take (j + n + 1)).drop j) % val d) := by
  have hV : val d < 18446744073709551616 ^ n := by rw [← hl]; exact val_lt hd
  obtain ⟨t1, t2⟩ := top_two d hd n hn hl
  obtain ⟨w1, w2⟩ := window U hU j n hn hj
  -- what lies above is 0
  have sp := val_take_drop (U.drop (j + 1)) n (by rw [List.length_drop]; omega)
  rw [List.drop_drop] at sp
  have e1 : j + 1 + n = j + n + 1 := by omega
  rw [e1] at sp
  have hz : val (U.drop (j + n + 1)) = 0 := by
    rcases Nat.eq_zero_or_pos (val (U.drop (j + n + 1))) with h | h
    · exact h
    · have := Nat.le_mul_of_pos_right (18446744073709551616 ^ n) h
      omega
  have sj := val_take_drop (U.drop j) (n + 1) (by rw [List.length_drop]; omega)
  rw [List.drop_drop] at sj
  have e2 : j + (n + 1) = j + n + 1 := by omega
  rw [e2, hz, Nat.mul_zero, Nat.add_zero] at sj
  have e3 : (U.drop j).take (n + 1) = (U.take (j + n + 1)).drop j := by
    rw [List.take_drop]
    have : j + (n + 1) = j + n + 1 := by omega
    rw [this]
  rw [e3] at sj
  have vd := val_drop U j (by omega)
  obtain ⟨a0, a1⟩ := ws_get hU (j + n)
  obtain ⟨b0, b1⟩ := ws_get hU (j + n - 1)
  obtain ⟨c0, c1⟩ := ws_get hU (j + n - 2)
  obtain ⟨d0, d1⟩ := ws_get hd (n - 1)
  obtain ⟨f0, f1⟩ := ws_get hd (n - 2)
  obtain ⟨u0, u1⟩ := ws_get hU j
  have ea := asNat a0
  have eb := asNat b0
  have ec := asNat c0
  have ed := asNat d0
  have ef := asNat f0
  have ww : Ws ((U.take (j + n + 1)).drop j) := ws_drop (ws_take hU _) _
  have wl : ((U.take (j + n + 1)).drop j).length = d.length + 1 := by rw [List.length_drop, List.length_take]; omega
  -- the highest word is no greater
  have had : (U.getD (j + n) 0).toNat ≤ (d.getD (n - 1) 0).toNat := by
    have s1 := val_take_drop (U.drop (j + 1)) (n - 1) (by rw [List.length_drop]; omega)
    rw [List.drop_drop] at s1
    have f1 : j + 1 + (n - 1) = j + n := by omega
    rw [f1, val_drop U (j + n) hj] at s1
    have s2 := val_take_succ d (n - 1) (by omega)
    have f2 : n - 1 + 1 = n := by omega
    rw [f2, val_take_ge d n (by omega)] at s2
    have s3 := val_take_lt hd (n - 1)
    have g1 : 18446744073709551616 ^ (n - 1) * (U.getD (j + n) 0).toNat ≤ val (U.drop (j + 1)) := by
      rw [s1, Nat.mul_add]; omega
    have g2 : 18446744073709551616 ^ (n - 1) * (U.getD (j + n) 0).toNat < 18446744073709551616 ^ (n - 1) * ((d.getD (n - 1) 0).toNat + 1) := by
      rw [Nat.mul_add, Nat.mul_one]; omega
    have := Nat.lt_of_mul_lt_mul_left g2
    omega
  generalize ha : (U.getD (j + n) 0).toNat = a at *
  generalize hb : (U.getD (j + n - 1) 0).toNat = b at *
  generalize hc : (U.getD (j + n - 2) 0).toNat = c at *
  generalize hd1 : (d.getD (n - 1) 0).toNat = D at *
  generalize he1 : (d.getD (n - 2) 0).toNat = E at *
  have la : b < 18446744073709551616 := Int.ofNat_lt.1 (eb ▸ b1)
  have lc : c < 18446744073709551616 := Int.ofNat_lt.1 (ec ▸ c1)
  have lD : D < 18446744073709551616 := Int.ofNat_lt.1 (ed ▸ d1)
  have lE : E < 18446744073709551616 := Int.ofNat_lt.1 (ef ▸ f1)
  have hdig := digit_eq k a b c D E htop lD la lc lE had (by omega)
  obtain ⟨G, hG⟩ : ∃ G, G = min 18446744073709551615 (((a * 18446744073709551616 + b) * 18446744073709551616 + c) / (D * 18446744073709551616 + E)) := ⟨_, rfl⟩
  rw [← hG] at hdig
  have hGl : G < 18446744073709551616 := by rw [hG]; exact Nat.lt_of_le_of_lt (Nat.min_le_left _ _) (by decide)
  obtain ⟨bb, r, hless, hb1, hrl, hrw, hre⟩ := less_eq ((U.take (j + n + 1)).drop j) d ww hd G k hGl wl (by omega) (by omega)
  obtain ⟨cc, r', hback, hrl', hrw', hre'⟩ := back_eq r d hrw hd k (by omega) (by omega) (by omega)
  have kn := knuth (M := 18446744073709551616) (K := 18446744073709551616 ^ (n - 2)) (U := (a * 18446744073709551616 + b) * 18446744073709551616 + c) (u := val ((U.take (j + n - 2)).drop j)) (V := D * 18446744073709551616 + E) (v := val (d.take (n - 2))) (Q := val ((U.take (j + n + 1)).drop j) / val d) (G := G) w2 t2 (by omega) hG (by decide) (by rw [← w1, ← t1]) (by rw [← w1, ← t1, ← sj, vd]; omega)
  have hVp : 0 < val d := by omega
  have hlen : ((U.take (j + n + 1)).drop j).length = n + 1 := by omega
  rw [hlen] at hre
  have hrl2 : r.length = n + 1 := by omega
  rw [hrl2] at hre' hrl'
  have hrb : val r < 18446744073709551616 ^ (n + 1) := by rw [← hrl2]; exact val_lt hrw
  have hrb' : val r' < 18446744073709551616 ^ (n + 1) := by rw [← hrl']; exact val_lt hrw'
  have hVE : val d ≤ 18446744073709551616 ^ (n + 1) := Nat.le_trans (Nat.le_of_lt hV) (Nat.pow_le_pow_right (by decide) (by omega))
  have lb := less_back hVp rfl kn.1 kn.2 hVE hb1 hre hrb hre' hrb'
  have i1 : (j : Int) < ((j + n + 1 : Nat) : Int) := by omega
  have i2 : ((j + n + 1 : Nat) : Int) ≤ (U.length : Int) := by omega
  refine ⟨G, _, bb, r, by rw [ea, eb, ec, ed, ef]; exact hdig, hGl, ?_, hb1, hrl2, hrw, sj, hz, rfl, lb.1, fun h => ⟨(lb.2 h).1, r', ?_, hrl', hrw', (lb.2 h).2⟩⟩
  · unfold nat_number_lessAt.f
    rw [if_pos (Int.natCast_nonneg _), if_pos i1, if_pos i2, Int.toNat_natCast, Int.toNat_natCast, hless, bind_s]
  · obtain ⟨v1, v2, v3⟩ := view_again (U.take j) r (U.drop (j + n + 1)) j (j + n + 1) (by rw [List.length_take]; omega) (by omega)
    have i3 : ((j + n + 1 : Nat) : Int) ≤ ((U.take j ++ r ++ U.drop (j + n + 1)).length : Int) := by
      rw [List.length_append, List.length_append, List.length_take, List.length_drop]; omega
    unfold nat_number_backAt.f
    rw [if_pos (Int.natCast_nonneg _), if_pos i1, if_pos i3, Int.toNat_natCast, Int.toNat_natCast, v1, v2, v3, hback, bind_s]
theorem div_loop (d : List Int) (hd : Ws d) (n s : Nat) (hn : 2 ≤ n) (hl : d.length = n) (htop : 9223372036854775808 ≤ (d.getD (n - 1) 0).toNat) (hs : s < 64) (L : Nat) (hL : L < 35184372088832) (U0 : Nat) (c : Nat) : ∀ (k : Nat) (U q : List Int), c + n ≤ L → c ≤ q.length → U.length = L → Ws U → Ws q → q.length < 35184372088832 → c + 4 * L + q.length + 300 < k →
    val (U.drop c) < val d → val U + val d * (18446744073709551616 ^ c * val (q.drop c)) = U0 →
    nat_number_div.l0 k s d U n q ((c : Int) - 1) = some (ofN (U0 / val d), ofN (U0 % val d / 2 ^ s)) := by
  induction c with
  | zero =>
    intro k U q hc hcq hUl hU hq nq hk hlt hv
    obtain ⟨k, rfl⟩ : ∃ m, k = m + 1 := ⟨k - 1, by omega⟩
    rw [List.drop_zero] at hlt
    rw [List.drop_zero, Nat.pow_zero, Nat.one_mul] at hv
    have hVp : 0 < val d := by omega
    obtain ⟨h1, h2⟩ := div_unique (a := U0) (d := val d) (q := val q) (r := val U) (by omega) hlt
    have hVn : val d < 18446744073709551616 ^ n := by rw [← hl]; exact val_lt hd
    have hz := val_take_drop U n (by omega)
    have hUn : val (U.take n) = val U := by
      rcases Nat.eq_zero_or_pos (val (U.drop n)) with h | h
      · rw [h] at hz; omega
      · have := Nat.le_mul_of_pos_right (18446744073709551616 ^ n) h
        omega
    have i1 : (n : Int) ≤ (U.length : Int) := by omega
    have e0 : ¬ (((0 : Nat) : Int) - 1 ≥ 0) := by omega
    have l1 : (ofN (val U)).length ≤ U.length := (ofN_len _ _).2 (val_lt hU)
    have f1 := norm_eq _ (U.take n) k rfl (ws_take hU n) (by rw [List.length_take]; omega) (by rw [List.length_take]; omega)
    rw [hUn] at f1
    have f2 := nshr_eq (ofN (val U)) s k (ws_ofN _) (by omega) (by omega) (fun x => by rw [val_ofN] at x; exact ofN_ne.2 x) (by omega)
    rw [val_ofN] at f2
    have f3 := norm_eq _ q k rfl hq (by omega) (by omega)
    simp only [nat_number_div.l0]
    rw [if_neg e0, if_pos (Int.natCast_nonneg _), if_pos i1, Int.toNat_natCast, f1, bind_s, f2, bind_s, f3, bind_s, h1, h2]
  | succ j ih =>
    intro k U q hc hcq hUl hU hq nq hk hlt hv
    obtain ⟨k, rfl⟩ : ∃ m, k = m + 1 := ⟨k - 1, by omega⟩
    obtain ⟨G, Q, b, r, s1, s2, s3, s4, s5, s6, s7, s8, s9, s10, s11⟩ := digit_step U d hU hd n j k hn hl (by omega) (by omega) htop hlt (by omega)
    have e0 : ((j + 1 : Nat) : Int) - 1 = (j : Int) := by omega
    have b0 : (j : Int) ≥ 0 := by omega
    have w1 : j + n < 4611686018427387904 := by omega
    have q1 : j < q.length := by omega
    have c1 : ((j + n : Nat) : Int) < (U.length : Int) := by omega
    have c2 : ((j + n - 1 : Nat) : Int) < (U.length : Int) := by omega
    have c3 : ((j + n - 2 : Nat) : Int) < (U.length : Int) := by omega
    have c4 : ((n - 1 : Nat) : Int) < (d.length : Int) := by omega
    have c5 : ((n - 2 : Nat) : Int) < (d.length : Int) := by omega
    have c6 : (j : Int) ≤ ((j + n + 1 : Nat) : Int) := by omega
    have c7 : ((j + n + 1 : Nat) : Int) ≤ (U.length : Int) := by omega
    have c8 : (j : Int) < (q.length : Int) := by omega
    have hVp : 0 < val d := by omega
    have split := view_split U j (j + n + 1) (by omega) (by omega)
    have hAl : (U.take j).length = j := by rw [List.length_take]; omega
    have wl : ((U.take (j + n + 1)).drop j).length = n + 1 := by rw [List.length_drop, List.length_take]; omega
    have wR : Ws (U.drop (j + n + 1)) := ws_drop hU _
    have wA : Ws (U.take j) := ws_take hU _
    have hdm := Nat.div_add_mod (val ((U.take (j + n + 1)).drop j)) (val d)
    rw [← s9, Nat.mul_comm] at hdm
    have vU : val U = val (U.take j) + 18446744073709551616 ^ j * val ((U.take (j + n + 1)).drop j) := by
      have := val_take_drop U j (by omega)
      rw [s7] at this; exact this
    have hm : val ((U.take (j + n + 1)).drop j) % val d < val d := Nat.mod_lt _ hVp
    -- what the next round is handed
    have go : ∀ (X : List Int) (g : Nat), g = Q → X.length = n + 1 → Ws X → val X = val ((U.take (j + n + 1)).drop j) % val d → Q < 18446744073709551616 →
        nat_number_div.l0 k s d (U.take j ++ X ++ U.drop (j + n + 1)) n (q.set j (g : Int)) ((j : Int) - 1) = some (ofN (U0 / val d), ofN (U0 % val d / 2 ^ s)) := by
      intro X g hg hX wX vX hQ
      subst hg
      have hlX : (U.take j ++ X ++ U.drop (j + n + 1)).length = L := by
        rw [List.length_append, List.length_append, hAl, hX, List.length_drop]; omega
      have dX : (U.take j ++ X ++ U.drop (j + n + 1)).drop j = X ++ U.drop (j + n + 1) := by
        have := List.drop_left (l₁ := U.take j) (l₂ := X ++ U.drop (j + n + 1))
        rw [hAl] at this
        rw [List.append_assoc]; exact this
      have vX2 : val (X ++ U.drop (j + n + 1)) = val X := by rw [val_append, s8]; omega
      refine ih k _ _ (by omega) (by rw [List.length_set]; omega) hlX (ws_append.2 ⟨ws_append.2 ⟨wA, wX⟩, wR⟩) (ws_set hq _ (Int.natCast_nonneg _) (Int.ofNat_lt.2 hQ)) (by rw [List.length_set]; exact nq) (by rw [List.length_set]; omega) (by rw [dX, vX2, vX]; exact hm) ?_
      have vN : val (U.take j ++ X ++ U.drop (j + n + 1)) = val (U.take j) + 18446744073709551616 ^ j * val X := by
        rw [List.append_assoc, val_append, vX2, hAl]
      rw [vN, vX, val_drop (q.set j _) j (by rw [List.length_set]; exact q1), drop_set, Nm.getD_set_eq _ _ _ q1, Int.toNat_natCast, ← hv, vU, Nat.pow_succ]
      exact step_sum hdm.symm
    have w2 : wrap64 ((j : Int) + (n : Int)) = ((j + n : Nat) : Int) := by rw [wrapS (by omega) (by omega)]; omega
    have w3 : wrap64 (((j + n : Nat) : Int) - 1) = ((j + n - 1 : Nat) : Int) := by clear w2; rw [wrapS (by omega) (by omega)]; omega
    have w4 : wrap64 (((j + n : Nat) : Int) - 2) = ((j + n - 2 : Nat) : Int) := by clear w2 w3; rw [wrapS (by omega) (by omega)]; omega
    have w5 : wrap64 ((n : Int) - 1) = ((n - 1 : Nat) : Int) := by clear w2 w3 w4; rw [wrapS (by omega) (by omega)]; omega
    have w6 : wrap64 ((n : Int) - 2) = ((n - 2 : Nat) : Int) := by clear w2 w3 w4 w5; rw [wrapS (by omega) (by omega)]; omega
    have w7 : wrap64 ((j : Int) - 1) = (j : Int) - 1 := by clear w2 w3 w4 w5 w6; exact wrap_pred (by omega)
    rw [e0]
    simp only [nat_number_div.l0]
    rw [if_pos b0, w2, w3, w4, w5, w6, w7, wrap_succ w1, if_pos (Int.natCast_nonneg _), if_pos c1, if_pos (Int.natCast_nonneg _), if_pos c2, if_pos (Int.natCast_nonneg _), if_pos c3, if_pos (Int.natCast_nonneg _), if_pos c4, if_pos (Int.natCast_nonneg _), if_pos c5, rd_nat, rd_nat, rd_nat, rd_nat, rd_nat, s1, bind_s, if_pos (Int.natCast_nonneg _), if_pos c6, if_pos c7, s3, bind_s, Int.toNat_natCast]
    clear w2 w3 w4 w5 w6 w7
    by_cases hb : b = 0
    · obtain ⟨t1, t2⟩ := s10 hb
      have hbb : decide (b > 0) = false := decide_eq_false (by omega)
      dsimp only
      rw [hbb, if_neg Bool.false_ne_true, if_pos c8]
      exact go r G t1 s5 s6 t2 (by omega)
    · obtain ⟨t1, r', t2, t3, t4, t5⟩ := s11 (by omega)
      have hbb : decide (b > 0) = true := decide_eq_true (by omega)
      have hdec : IntKind.u64.wrap ((G : Int) - 1) = ((G - 1 : Nat) : Int) := wrap_dec (by omega) s2
      dsimp only
      rw [hbb, if_pos rfl, t2, bind_s, if_pos c8, hdec]
      exact go r' (G - 1) (by omega) t3 t4 t5 (by omega)
end Go.Proofs.Ytdbhednhhmbooaa.Nf

namespace Go.Proofs.Ytdbhednhhmbooaa.Nf
open Go.RowKit Go.Proofs.Ytdbhednhhmbooaa.PAll Go.Proofs.YtdbhednhhmbooaaW.PrintWords Go.Proofs.YtdbhednhhmbooaaW.PrintLast Go.Proofs.YtdbhednhhmbooaaW.PrintMore Go.Proofs.Ytdbhednhhmbooaa.Nm
set_option linter.unusedVariables false
set_option linter.unusedSimpArgs false
/-- A number shifted so that its highest bit is a word's highest. -/
theorem shl_top {v : Nat} (h : v ≠ 0) : ∃ m w : Nat, (ofN v).length = m + 1 ∧ (ofN v).getD m 0 = (w : Int) ∧ w < 18446744073709551616 ∧ w ≠ 0 ∧ 64 - bl w < 64 ∧ (ofN (v * 2 ^ (64 - bl w))).length = m + 1 ∧ 9223372036854775808 ≤ ((ofN (v * 2 ^ (64 - bl w))).getD m 0).toNat := by
  obtain ⟨m, w, h1, h2, h3, h4, h5⟩ := len_bl h
  have c := bl_word h4
  have c0 := bl_ne h3
  have hp : 0 < 2 ^ (64 - bl w) := Nat.pow_pos (by decide)
  have hv : v * 2 ^ (64 - bl w) ≠ 0 := by
    have := Nat.mul_pos (show 0 < v by omega) hp
    omega
  obtain ⟨m', w', g1, g2, g3, g4, g5⟩ := len_bl hv
  rw [bl_shl h] at g2
  have d := bl_word g4
  have d0 := bl_ne g3
  have em : m' = m := by omega
  subst em
  have ew : bl w' = 64 := by omega
  have := bl_le g3
  rw [ew] at this
  refine ⟨m', w, h1, h5, h4, h3, by omega, g1, ?_⟩
  rw [g5, Int.toNat_natCast]
  have e : (2 : Nat) ^ 64 = 18446744073709551616 := by decide
  rw [e] at this
  omega
theorem top_pow {d : List Int} (hd : Ws d) (m : Nat) (hl : d.length = m + 1) (h : 9223372036854775808 ≤ (d.getD m 0).toNat) : 18446744073709551616 ^ m * 9223372036854775808 ≤ val d := by
  have s2 := val_take_succ d m (by omega)
  rw [val_take_ge d (m + 1) (by omega)] at s2
  have := Nat.mul_le_mul_left (18446744073709551616 ^ m) h
  omega
theorem div_start {P Q V a s : Nat} (ha : a < P * Q) (hs : 2 ^ s ≤ 9223372036854775808) (hV : Q * 9223372036854775808 ≤ V) : a * 2 ^ s < P * V := by
  have h1 : a * 2 ^ s ≤ a * 9223372036854775808 := Nat.mul_le_mul_left _ hs
  have h2 : a * 9223372036854775808 < P * Q * 9223372036854775808 := Nat.mul_lt_mul_of_pos_right ha (by decide)
  have h3 : P * (Q * 9223372036854775808) ≤ P * V := Nat.mul_le_mul_left _ hV
  rw [← Nat.mul_assoc] at h3
  omega
theorem div_eq (a b k : Nat) (hb : b ≠ 0) (la : (ofN a).length ≤ 1024) (lb : (ofN b).length ≤ 1024) (hk : 10000 < k) : nat_number_div.f k (ofN a) (ofN b) = some (ofN (a / b), ofN (a % b)) := by
  unfold nat_number_div.f
  rw [cmp_eq a b k (by omega) (by omega), bind_s]
  by_cases h : a < b
  · have e : cmpI a b = -1 := by unfold cmpI; rw [if_pos h]
    rw [e, if_pos (by decide), Nat.div_eq_of_lt h, Nat.mod_eq_of_lt h, ofN_zero]
  · have e : ¬ cmpI a b < 0 := by
      unfold cmpI; rw [if_neg h]; split <;> decide
    rw [if_neg e]
    obtain ⟨m, w, h1, h2, h3, h4, h5, h6, h7⟩ := shl_top hb
    by_cases z : m = 0
    · subst z
      have hbw : b = w := by
        have := val_take_succ (ofN b) 0 (by omega)
        rw [val_take_ge _ _ (by omega), val_ofN, h2] at this
        simpa [val] using this
      have f1 := short_eq (ofN a) (ws_ofN a) w k (by omega) h3 (by omega) (by omega)
      rw [val_ofN] at f1
      have hm : a % w < w := Nat.mod_lt _ (by omega)
      have f2 := norm_eq 1 [((a % w : Nat) : Int)] k rfl (ws_cons.2 ⟨by omega, ws_nil⟩) (by decide) (by omega)
      have f3 : val [((a % w : Nat) : Int)] = a % w := by rw [val_cons, val_nil, Int.toNat_natCast]; omega
      have c1 : ((ofN b).length : Int) = 1 := by omega
      have c2 : 0 < ((ofN b).length : Int) := by omega
      have r0 : rd (ofN b) 0 = (w : Int) := (rd_nat (ofN b) 0).trans h2
      rw [if_pos c1, if_pos c2, r0, f1, bind_s, f2, bind_s, f3, hbw]
    · have c1 : ¬ ((ofN b).length : Int) = 1 := by omega
      have hlen := ofN_len_le (show b ≤ a by omega)
      obtain ⟨A, hA⟩ : ∃ A, (ofN a).length = A := ⟨_, rfl⟩
      have c2 : (m : Int) < ((ofN b).length : Int) := by omega
      have f0 := Lead64_eq k w h3 (by omega)
      have hne : ofN b ≠ [] := fun x => hb (ofN_ne.1 x)
      have hna : ofN a ≠ [] := fun x => by rw [ofN_ne] at x; omega
      generalize 64 - bl w = s at *
      have s64 : s / 64 = 0 := by omega
      have f1 := nshl_eq (ofN b) s k (ws_ofN b) (by omega) hne (by omega) (by omega)
      have f2 := nshl_eq (ofN a) s k (ws_ofN a) (by omega) hna (by omega) (by omega)
      rw [val_ofN] at f1 f2
      have hp : 0 < 2 ^ s := Nat.pow_pos (by decide)
      have hps : 2 ^ s ≤ 9223372036854775808 := by
        have : 2 ^ s ≤ 2 ^ 63 := Nat.pow_le_pow_right (by decide) (by omega)
        exact this
      -- how long the shifted number is
      have haB : a < 18446744073709551616 ^ A := by rw [← hA]; exact (ofN_len a _).1 (Nat.le_refl _)
      have lT : (ofN (a * 2 ^ s)).length ≤ A + 1 := by
        rw [ofN_len, Nat.pow_succ]
        have := div_start (P := 1) (Q := 18446744073709551616 ^ A) (V := 18446744073709551616 ^ A * 9223372036854775808) (a := a) (s := s) (by omega) hps (Nat.le_refl _)
        omega
      have hd := ws_ofN (b * 2 ^ s)
      have tp := top_pow hd m h6 h7
      rw [val_ofN] at tp
      have c0 : A - m + (m + 1) = A + 1 := by omega
      have cA : A + 1 ≤ 35184372088832 := by omega
      have cB : A - m ≤ 35184372088832 := by omega
      have c3 : ((ofN b).length : Int) - 1 = (m : Int) := by omega
      obtain ⟨T, hT⟩ : ∃ T, ofN (a * 2 ^ s) = T := ⟨_, rfl⟩
      have mn : min T.length (List.replicate (A + 1) (0 : Int)).length = T.length := by rw [List.length_replicate, ← hT]; omega
      have hU : (T.take T.length ++ (List.replicate (A + 1) (0 : Int)).drop T.length) = T ++ List.replicate (A + 1 - T.length) 0 := by rw [List.take_length, List.drop_replicate]
      have lT' : T.length ≤ A + 1 := by rw [← hT]; exact lT
      have lU : (T ++ List.replicate (A + 1 - T.length) (0 : Int)).length = A + 1 := by simp; omega
      have wT : Ws T := by rw [← hT]; exact ws_ofN _
      have wU : Ws (T ++ List.replicate (A + 1 - T.length) (0 : Int)) := ws_append.2 ⟨wT, ws_replicate _⟩
      have vU : val (T ++ List.replicate (A + 1 - T.length) (0 : Int)) = a * 2 ^ s := by rw [val_append, val_replicate, ← hT, val_ofN]; simp
      have hdl : 2 ≤ m + 1 := by omega
      have lm : m + 1 ≤ A := by omega
      have start : val ((T ++ List.replicate (A + 1 - T.length) (0 : Int)).drop (A - m)) < val (ofN (b * 2 ^ s)) := by
        have sp := val_take_drop (T ++ List.replicate (A + 1 - T.length) (0 : Int)) (A - m) (by rw [lU]; omega)
        rw [vU] at sp
        rw [val_ofN]
        have eP : 18446744073709551616 ^ A = 18446744073709551616 ^ (A - m) * 18446744073709551616 ^ m := by rw [← Nat.pow_add]; congr 1; omega
        have := div_start (P := 18446744073709551616 ^ (A - m)) (Q := 18446744073709551616 ^ m) (V := b * 2 ^ s) (a := a) (s := s) (by rw [← eP]; exact haB) hps tp
        have g : 18446744073709551616 ^ (A - m) * val ((T ++ List.replicate (A + 1 - T.length) (0 : Int)).drop (A - m)) < 18446744073709551616 ^ (A - m) * (b * 2 ^ s) := by
          omega
        exact Nat.lt_of_mul_lt_mul_left g
      have key := div_loop (ofN (b * 2 ^ s)) hd (m + 1) s hdl h6 h7 h5 (A + 1) (by omega) (a * 2 ^ s) (A - m) k (T ++ List.replicate (A + 1 - T.length) 0) (List.replicate (A - m) 0) (by omega) (by simp) lU wU (ws_replicate _) (by simp; omega) (by simp; omega) start (by rw [vU, List.drop_eq_nil_of_le (by simp)]; simp [val])
      obtain ⟨b1, b2⟩ := shift_both (v := a) (s := s) (show 0 < b by omega)
      rw [val_ofN, b1, b2] at key
      have e1 : wrap64 (((ofN b).length : Int) - 1) = (m : Int) := by rw [wrapS (by omega) (by omega)]; omega
      have wrA : wrap64 (((ofN a).length : Int) + 1) = ((A + 1 : Nat) : Int) := by rw [hA]; exact wrap_succ (by omega)
      have wrB : wrap64 (((ofN a).length : Int) - ((ofN (b * 2 ^ s)).length : Int)) = ((A - m : Nat) : Int) - 1 := by clear e1 wrA; rw [wrapS (by omega) (by omega)]; omega
      have wrC : wrap64 (((A - m : Nat) : Int) - 1 + 1) = ((A - m : Nat) : Int) := by clear e1 wrA wrB; rw [wrapS (by omega) (by omega)]; omega
      rw [if_neg c1, e1, if_pos (Int.natCast_nonneg _), if_pos c2, rd_nat, h2, f0, bind_s, f1, bind_s, wrA, if_pos (Int.natCast_nonneg _), Int.toNat_natCast, if_pos cA, bind_s, f2, bind_s, wrB, wrC, if_pos (Int.natCast_nonneg _), Int.toNat_natCast, if_pos cB, hT, mn, hU, h6]
      exact key
end Go.Proofs.Ytdbhednhhmbooaa.Nf

namespace Go.Proofs.Ytdbhednhhmbooaa.Nf
open Go.RowKit Go.Proofs.Ytdbhednhhmbooaa.PAll Go.Proofs.YtdbhednhhmbooaaW.PrintWords Go.Proofs.YtdbhednhhmbooaaW.PrintLast Go.Proofs.YtdbhednhhmbooaaW.PrintMore Go.Proofs.Ytdbhednhhmbooaa.Nm
set_option linter.unusedVariables false
set_option linter.unusedSimpArgs false
/-- A quotient, as it is answered. -/
def quoS (a b : Nat) : List Int × List Int × Int := if a < big ∧ b < big then (if b = 0 then ([], [], 30) else (ofN (a / b), ofN (a % b), 0)) else ([], [], 3)
def proS (a b : Nat) : List Int × Int := if a < big ∧ b < big then (if a * b < big then (ofN (a * b), 0) else ([], 3)) else ([], 3)
theorem Div_eq (a b : List Int) (k : Nat) (ha : Ws a) (hb : Ws b) (na : a.length < 17592186044000) (nb : b.length < 17592186044000) (hk : a.length + b.length + 20000 < k) : nat_Div.f k a b = some (quoS (val a) (val b)) := by
  unfold nat_Div.f quoS
  rw [both_eq a b k ha hb (by omega) (by omega) (by omega) (by omega), bind_s]
  by_cases h : val a < big ∧ val b < big
  · have la := len_big h.1
    have lb := len_big h.2
    simp only [if_pos h]
    rw [if_pos trivial]
    by_cases z : val b = 0
    · have z' := ofN_zero_iff.2 z
      rw [if_pos z, if_pos (by omega)]
    · have z' : (ofN (val b)).length ≠ 0 := fun x => z (ofN_zero_iff.1 x)
      have l1 := Nat.le_trans (ofN_len_le (Nat.div_le_self (val a) (val b))) la
      have l2 := Nat.le_trans (ofN_len_le (Nat.mod_le (val a) (val b))) la
      have o1 := own_eq (ofN (val a / val b)) (by omega)
      have o2 := own_eq (ofN (val a % val b)) (by omega)
      rw [if_neg z, if_neg (by omega), div_eq _ _ k z la lb (by omega), bind_s]
      dsimp only
      rw [o1, bind_s, o2, bind_s]
  · simp only [if_neg h]
    rw [if_neg (by decide)]
theorem Mul_eq (a b : List Int) (k : Nat) (ha : Ws a) (hb : Ws b) (na : a.length < 17592186044000) (nb : b.length < 17592186044000) (hk : a.length + b.length + 2000000 < k) : nat_Mul.f k a b = some (proS (val a) (val b)) := by
  unfold nat_Mul.f proS
  rw [both_eq a b k ha hb (by omega) (by omega) (by omega) (by omega), bind_s]
  by_cases h : val a < big ∧ val b < big
  · have la := len_big h.1
    have lb := len_big h.2
    have hm : (ofN (val a)).length * ((ofN (val b)).length + 2) ≤ 1024 * 1026 := Nat.mul_le_mul la (by omega)
    have f := nmul_eq (ofN (val a)) (ofN (val b)) k (ws_ofN _) (ws_ofN _) (by omega) (by omega)
    rw [val_ofN, val_ofN] at f
    simp only [if_pos h]
    rw [if_pos trivial, f, bind_s, answer_eq, bind_s]
  · simp only [if_neg h]
    rw [if_neg (by decide)]
end Go.Proofs.Ytdbhednhhmbooaa.Nf
