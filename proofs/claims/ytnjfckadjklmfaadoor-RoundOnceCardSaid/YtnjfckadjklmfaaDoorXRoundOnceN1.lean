/- Plain part. -/
import Derived.Test.YtnjfckadjklmfaaDoorXRoundOnceN0
import Derived.Test.YtnjfckadjklmfaaDoorXRoundOnceP0
import Derived.Test.YtnjfckadjklmfaaDoorXRoundOnceP1
import Derived.Test.YtnjfckadjklmfaaDoorXRoundOnceP2
import Derived.Test.YtnjfckadjklmfaaDoorXRoundOnceP3
import Derived.Test.YtnjfckadjklmfaaDoorXRoundOnceP14
import Derived.Test.YtnjfckadjklmfaaDoorXRoundOnceP15
import Derived.Test.YtnjfckadjklmfaaDoorXRoundOnceP16
import Derived.Test.YtnjfckadjklmfaaDoorXRoundOnceP17
import Derived.Laws.Bits64b
import Derived.Laws.BitsAllLaws
import Derived.Laws.Closers25b
import Derived.Test.YtnjfckadjklmfaaDoorXRoundOnceP4
namespace Go.Proofs.YtnjfckadjklmfaaDoor.Nf
open Go.RowKit Go.Proofs.YtnjfckadjklmfaaDoor.PAll Go.Proofs.YtnjfckadjklmfaaDoorW.PrintWords Go.Proofs.YtnjfckadjklmfaaDoorW.PrintLast Go.Proofs.YtnjfckadjklmfaaDoorW.PrintMore Go.Proofs.YtnjfckadjklmfaaDoor.Nm
set_option linter.unusedVariables false
set_option linter.unusedSimpArgs false
theorem wrapU {x : Int} (h0 : 0 ≤ x) (h1 : x < 18446744073709551616) : IntKind.u64.wrap x = x := by
 rw [IntKind.wrap_u64]; omega
theorem wrapS {x : Int} (h0 : -9223372036854775808 ≤ x) (h1 : x < 9223372036854775808) : wrap64 x = x := by
 unfold wrap64; omega
theorem rd_nat (l : List Int) (j : Nat) : rd l (j : Int) = l.getD j 0 := by simp [rd]
theorem bind_s {α β : Type} (a : α) (f : α → Option β) : (some a).bind f = f a := by simp
theorem norm_eq (n : Nat) : ∀ (l : List Int) (k : Nat), l.length = n → Ws l → n < 4611686018427387904 → n < k → nat_norm.f k l = some (ofN (val l)) := by
 unfold nat_norm.f
 induction n with
 | zero =>
  intro l k hl hw hn hk
  obtain ⟨k, rfl⟩ : ∃ m, k = m + 1 := ⟨k - 1, by omega⟩
  obtain rfl := List.eq_nil_of_length_eq_zero hl
  simp [nat_norm.l0, val, ofN_zero]
 | succ n ih =>
  intro l k hl hw hn hk
  obtain ⟨k, rfl⟩ : ∃ m, k = m + 1 := ⟨k - 1, by omega⟩
  simp only [nat_norm.l0]
  have e : wrap64 ((l.length : Int) - 1) = (n : Int) := by rw [wrapS (by omega) (by omega)]; omega
  rw [e, if_pos (by omega), if_pos (by omega), if_pos (by omega), rd_nat]
  have hv := val_take_succ l n (by omega)
  rw [val_take_ge l (n + 1) (by omega)] at hv
  by_cases h : l.getD n 0 = 0
  ·rw [if_pos h, if_pos (by omega), Int.toNat_natCast, ih (l.take n) k (by rw [List.length_take]; omega) (ws_take hw n) (by omega) (by omega)]
   rw [h] at hv
   simp at hv; rw [hv]
  rw [if_neg h]
  congr 1
  refine eq_ofN hw ?_
  have hs : l = l.take n ++ [l.getD n 0] := by
   have := List.take_succ_eq_append_getElem (l := l) (i := n) (by omega)
   rw [List.take_of_length_le (by omega)] at this
   rw [List.getD_eq_getElem?_getD, List.getElem?_eq_getElem (by omega)]
   exact this
  rw [hs]; exact nrm_of_last h
theorem great_eq (l : List Int) : nat_number_great.f l = some (decide (1024 < l.length)) := by
 unfold nat_number_great.f; congr 1; rw [Bool.eq_iff_iff]; simp; omega
theorem great_ofN (v : Nat) : nat_number_great.f (ofN v) = some (decide (¬ v < big)) := by
 have e : (1024 < (ofN v).length) ↔ ¬ v < big := by rw [← ofN_big]; omega
 rw [great_eq, decide_eq_decide.2 e]
theorem one_eq (l : List Int) (k : Nat) (hw : Ws l) (hn : l.length < 4611686018427387904) (hk : l.length < k) :
  nat_one.f k l = some (if val l < big then (ofN (val l), 0) else ([], 3)) := by
 unfold nat_one.f; rw [norm_eq _ l k rfl hw hn hk]; simp only [bind_s]; rw [great_ofN]; simp only [bind_s]
 by_cases h : val l < big <;> simp [h]
theorem own_eq (l : List Int) (h : l.length < 17592186044416) : nat_number_own.f l = some l := by
 unfold nat_number_own.f; rw [if_pos (by simpa using h)]; rfl
theorem answer_eq (v : Nat) : nat_answer.f (ofN v) = some (if v < big then (ofN v, 0) else ([], 3)) := by
 unfold nat_answer.f; rw [great_ofN]; simp only [bind_s]
 by_cases h : v < big
 ·have := (ofN_big v).2 h
  rw [own_eq _ (by omega)]; simp [h]
 simp [h]
theorem pow_step {P v w s c d x y : Nat} (h : s + 18446744073709551616 * d = x + y + c) : v + P * c + 0 + (P * x + P * y) = v + P * s + P * 18446744073709551616 * d := by
 have : P * (s + 18446744073709551616 * d) = P * (x + y + c) := by rw [h]
 rw [Nat.mul_add, Nat.mul_add, Nat.mul_add, ← Nat.mul_assoc] at this
 omega
theorem add_step {P va vb vo c x y s d : Nat} (h : s + 18446744073709551616 * d = x + y + c) (e : vo + P * c = va + vb) : vo + P * s + P * 18446744073709551616 * d = va + P * x + (vb + P * y) := by
 have := pow_step (P := P) (v := vo) (w := 0) h
 omega
end Go.Proofs.YtnjfckadjklmfaaDoor.Nf
namespace Go.Proofs.YtnjfckadjklmfaaDoor.Nf
open Go.RowKit Go.Proofs.YtnjfckadjklmfaaDoor.PAll Go.Proofs.YtnjfckadjklmfaaDoorW.PrintWords Go.Proofs.YtnjfckadjklmfaaDoorW.PrintLast Go.Proofs.YtnjfckadjklmfaaDoorW.PrintMore Go.Proofs.YtnjfckadjklmfaaDoor.Nm
set_option linter.unusedVariables false
set_option linter.unusedSimpArgs false
theorem ws_wf {l : List Int} (h : ∀ x ∈ l, (Lit.int .u64 x).wf = true) : Ws l := by
 intro x hx
 have := h x hx
 simp [Lit.wf, IntKind.min, IntKind.max, IntKind.bits, IntKind.signed] at this
 omega
theorem word_eq (l : List Int) (i : Nat) : ulpref03_word.f l (i : Int) = some (l.getD i 0) := by
 unfold ulpref03_word.f
 by_cases h : i < l.length
 ·rw [if_pos (by omega), if_pos (by omega), rd_nat]
 rw [if_neg (by omega), getD_ge _ _ (by omega)]
theorem ofN_take {l : List Int} (hw : Ws l) {j : Nat} (hj : j < l.length) (h : l.getD j 0 ≠ 0) : l.take (j + 1) = ofN (val (l.take (j + 1))) := by
 refine eq_ofN (ws_take hw _) ?_
 rw [List.take_succ_eq_append_getElem hj]
 refine nrm_of_last ?_
 rwa [List.getD_eq_getElem?_getD, List.getElem?_eq_getElem hj] at h
theorem rnorm_loop (l : List Int) (hw : Ws l) (hn : l.length < 17592186044416) (n : Nat) : ∀ k, n ≤ l.length → n < k → ulpref03_Norm.l0 k l n = some (ofN (val (l.take n))) := by
 induction n with
 | zero =>
  intro k hj hk
  obtain ⟨k, rfl⟩ : ∃ m, k = m + 1 := ⟨k - 1, by omega⟩
  simp only [ulpref03_Norm.l0]
  rw [if_neg (by omega), if_pos (by omega), if_pos (by omega), if_pos (by simp)]
  simp [val, ofN_zero]
 | succ n ih =>
  intro k hj hk
  obtain ⟨k, rfl⟩ : ∃ m, k = m + 1 := ⟨k - 1, by omega⟩
  simp only [ulpref03_Norm.l0]
  have e : wrap64 (((n + 1 : Nat) : Int) - 1) = (n : Int) := by rw [wrapS (by omega) (by omega)]; omega
  rw [e, if_pos (by omega), if_pos (by omega), if_pos (by omega), rd_nat]
  by_cases h : l.getD n 0 = 0
  ·rw [if_pos h, ih k (by omega) (by omega), val_take_succ l n (by omega), h]; simp
  rw [if_neg h, if_pos (by omega), if_pos (by omega), Int.toNat_natCast, if_pos (by rw [List.length_take]; simp; omega), List.nil_append, ← ofN_take hw (by omega) h]
theorem rnorm_eq (l : List Int) (k : Nat) (hw : Ws l) (hn : l.length < 17592186044416) (hk : l.length < k) : ulpref03_Norm.f k l = some (ofN (val l)) := by
 unfold ulpref03_Norm.f
 rw [rnorm_loop l hw hn _ k (Nat.le_refl _) hk, val_take_ge _ _ (Nat.le_refl _)]
theorem val_take_lt {l : List Int} (h : Ws l) (j : Nat) : val (l.take j) < 18446744073709551616 ^ j := by
 have a := val_lt (ws_take h j)
 refine Nat.lt_of_lt_of_le a (Nat.pow_le_pow_right (by decide) ?_)
 rw [List.length_take]; omega
theorem mx_nat (a b : Nat) : mx (a : Int) (b : Int) = ((max a b : Nat) : Int) := by unfold mx; split <;> omega
theorem wrap_succ {j : Nat} (h : j < 4611686018427387904) : wrap64 ((j : Int) + 1) = ((j + 1 : Nat) : Int) := by rw [wrapS (by omega) (by omega)]; omega
theorem val_snoc (o : List Int) (w : Int) : val (o ++ [w]) = val o + 18446744073709551616 ^ o.length * w.toNat := by rw [val_append]; simp [val]
theorem radd_loop (a b : List Int) (ha : Ws a) (hb : Ws b) (na : a.length < 17592186044000) (nb : b.length < 17592186044000) (r : Nat) : ∀ (j k : Nat) (o : List Int) (c : Nat), max a.length b.length - j = r → j ≤ max a.length b.length → r + max a.length b.length + 3 < k → o.length = j → Ws o → c ≤ 1 →
  val o + 18446744073709551616 ^ j * c = val (a.take j) + val (b.take j) →
  ulpref03_Add.l0 k a b o c j = some (ofN (val a + val b)) := by
 induction r with
 | zero =>
  intro j k o c hr hj hk ho hw hc hv
  obtain ⟨k, rfl⟩ : ∃ m, k = m + 1 := ⟨k - 1, by omega⟩
  obtain rfl : j = max a.length b.length := by omega
  simp only [ulpref03_Add.l0, mx_nat]
  rw [if_neg (by omega), if_pos (by omega)]
  rw [rnorm_eq _ k (ws_append.2 ⟨hw, ws_cons.2 ⟨by omega, ws_nil⟩⟩) (by simp; omega) (by simp; omega), bind_s]
  rw [val_snoc, ho, Int.toNat_natCast, hv, val_take_ge _ _ (by omega), val_take_ge _ _ (by omega)]
 | succ r ih =>
  intro j k o c hr hj hk ho hw hc hv
  obtain ⟨k, rfl⟩ : ∃ m, k = m + 1 := ⟨k - 1, by omega⟩
  simp only [ulpref03_Add.l0, mx_nat]
  have i1 : max a.length b.length - (j + 1) = r := by omega
  have i2 : j + 1 ≤ max a.length b.length := by omega
  have i3 : r + max a.length b.length + 3 < k := by omega
  have pa := ws_get ha j; have pb := ws_get hb j
  rw [if_pos (by omega), word_eq, word_eq, bind_s, bind_s, wrap_succ (by omega)]
  have key : ∀ (s : Int) (d : Nat), 0 ≤ s → s < 18446744073709551616 → d ≤ 1 → s.toNat + 18446744073709551616 * d = (a.getD j 0).toNat + (b.getD j 0).toNat + c →
    ulpref03_Add.l0 k a b (o ++ [s]) d ((j + 1 : Nat) : Int) = some (ofN (val a + val b)) := by
   intro s d s0 s1 hd hs
   refine ih (j + 1) k _ d i1 i2 i3 (by simp [ho]) (ws_append.2 ⟨hw, ws_cons.2 ⟨⟨s0, s1⟩, ws_nil⟩⟩) hd ?_
   rw [val_snoc, ho, take_succ_getD a, take_succ_getD b, Nat.pow_succ]
   exact add_step hs hv
  generalize es : IntKind.u64.wrap (IntKind.u64.wrap (a.getD j 0 + b.getD j 0) + (c : Int)) = s
  have es' : s = (a.getD j 0 + b.getD j 0 + c) % 18446744073709551616 := by rw [← es, IntKind.wrap_u64, IntKind.wrap_u64]; omega
  have k0 := key s 0 (by omega) (by omega) (by omega)
  have k1 := key s 1 (by omega) (by omega) (by omega)
  have ho' : o.length < 17592186044416 := by omega
  by_cases h1 : s < a.getD j 0
  ·rw [if_pos h1, if_pos ho']; exact k1 (by omega)
  rw [if_neg h1]
  by_cases h2 : s = a.getD j 0
  ·rw [if_pos h2]
   by_cases h3 : (c : Int) = 1
   ·rw [if_pos h3]
    by_cases h4 : b.getD j 0 > 0
    ·rw [if_pos h4, if_pos ho']; exact k1 (by omega)
    rw [if_neg h4, if_pos ho']; exact k0 (by omega)
   rw [if_neg h3, if_pos ho']; exact k0 (by omega)
  rw [if_neg h2, if_pos ho']; exact k0 (by omega)
theorem radd_eq (a b : List Int) (k : Nat) (ha : Ws a) (hb : Ws b) (na : a.length < 17592186044000) (nb : b.length < 17592186044000) (hk : 2 * (a.length + b.length) + 3 < k) : ulpref03_Add.f k a b = some (ofN (val a + val b)) := by
 unfold ulpref03_Add.f
 exact radd_loop a b ha hb na nb _ 0 k [] 0 rfl (by omega) (by omega) rfl ws_nil (by omega) (by simp [val])
theorem rsub_loop (a b : List Int) (ha : Ws a) (hb : Ws b) (na : a.length < 17592186044000) (nb : b.length < 17592186044000) (hle : val b ≤ val a) (r : Nat) : ∀ (j k : Nat) (o : List Int) (c : Nat), max a.length b.length - j = r → j ≤ max a.length b.length → r + max a.length b.length + 3 < k → o.length = j → Ws o → c ≤ 1 →
  val (a.take j) + 18446744073709551616 ^ j * c = val o + val (b.take j) →
  ulpref03_Sub.l0 k a b o c j = some (ofN (val a - val b)) := by
 induction r with
 | zero =>
  intro j k o c hr hj hk ho hw hc hv
  obtain ⟨k, rfl⟩ : ∃ m, k = m + 1 := ⟨k - 1, by omega⟩
  obtain rfl : j = max a.length b.length := by omega
  simp only [ulpref03_Sub.l0, mx_nat]
  rw [if_neg (by omega), rnorm_eq _ k hw (by omega) (by omega), bind_s]
  have := val_lt hw
  rw [ho] at this
  rw [val_take_ge _ _ (by omega), val_take_ge _ _ (by omega)] at hv
  generalize 18446744073709551616 ^ max a.length b.length = p at *
  have : c = 0 := by
   rcases Nat.lt_or_ge c 1 with h | h
   ·omega
   have : c = 1 := by omega
   subst this; omega
  subst this
  rw [Nat.mul_zero] at hv
  congr 2; omega
 | succ r ih =>
  intro j k o c hr hj hk ho hw hc hv
  obtain ⟨k, rfl⟩ : ∃ m, k = m + 1 := ⟨k - 1, by omega⟩
  simp only [ulpref03_Sub.l0, mx_nat]
  have i1 : max a.length b.length - (j + 1) = r := by omega
  have i2 : j + 1 ≤ max a.length b.length := by omega
  have i3 : r + max a.length b.length + 3 < k := by omega
  have pa := ws_get ha j; have pb := ws_get hb j
  rw [if_pos (by omega), word_eq, word_eq, bind_s, bind_s, wrap_succ (by omega)]
  have key : ∀ (s : Int) (d : Nat), 0 ≤ s → s < 18446744073709551616 → d ≤ 1 → (a.getD j 0).toNat + 18446744073709551616 * d = s.toNat + (b.getD j 0).toNat + c →
    ulpref03_Sub.l0 k a b (o ++ [s]) d ((j + 1 : Nat) : Int) = some (ofN (val a - val b)) := by
   intro s d s0 s1 hd hs
   refine ih (j + 1) k _ d i1 i2 i3 (by simp [ho]) (ws_append.2 ⟨hw, ws_cons.2 ⟨⟨s0, s1⟩, ws_nil⟩⟩) hd ?_
   rw [val_snoc, ho, take_succ_getD a, take_succ_getD b, Nat.pow_succ]
   exact add_step hs hv
  generalize es : IntKind.u64.wrap (IntKind.u64.wrap (a.getD j 0 - b.getD j 0) - (c : Int)) = s
  have es' : s = (a.getD j 0 - b.getD j 0 - c) % 18446744073709551616 := by rw [← es, IntKind.wrap_u64, IntKind.wrap_u64]; omega
  have k0 := key s 0 (by omega) (by omega) (by omega)
  have k1 := key s 1 (by omega) (by omega) (by omega)
  have ho' : o.length < 17592186044416 := by omega
  by_cases h1 : a.getD j 0 < b.getD j 0
  ·rw [if_pos h1, if_pos ho']; exact k1 (by omega)
  rw [if_neg h1]
  by_cases h2 : a.getD j 0 = b.getD j 0
  ·rw [if_pos h2]
   by_cases h3 : (c : Int) = 1
   ·rw [if_pos h3, if_pos ho']; exact k1 (by omega)
   rw [if_neg h3, if_pos ho']; exact k0 (by omega)
  rw [if_neg h2, if_pos ho']; exact k0 (by omega)
theorem rsub_eq (a b : List Int) (k : Nat) (ha : Ws a) (hb : Ws b) (na : a.length < 17592186044000) (nb : b.length < 17592186044000) (hle : val b ≤ val a) (hk : 2 * (a.length + b.length) + 3 < k) : ulpref03_Sub.f k a b = some (ofN (val a - val b)) := by
 unfold ulpref03_Sub.f
 exact rsub_loop a b ha hb na nb hle _ 0 k [] 0 rfl (by omega) (by omega) rfl ws_nil (by omega) (by simp [val])
theorem rcmp_loop (a b : List Int) (ha : Ws a) (hb : Ws b) (j : Nat) : ∀ (k : Nat), j < 4611686018427387904 → j < k → ulpref03_Cmp.l0 k a b ((j : Int) - 1) = some (cmpI (val (a.take j)) (val (b.take j))) := by
 induction j with
 | zero =>
  intro k hj hk
  obtain ⟨k, rfl⟩ : ∃ m, k = m + 1 := ⟨k - 1, by omega⟩
  simp only [ulpref03_Cmp.l0]; rw [if_neg (by omega)]; simp [val, cmpI]
 | succ j ih =>
  intro k hj hk
  obtain ⟨k, rfl⟩ : ∃ m, k = m + 1 := ⟨k - 1, by omega⟩
  have e1 : ((j + 1 : Nat) : Int) - 1 = (j : Int) := by omega
  rw [e1]
  simp only [ulpref03_Cmp.l0]
  rw [if_pos (by omega), word_eq, word_eq, bind_s, bind_s, wrapS (by omega) (by omega), ih k (by omega) (by omega), take_succ_getD, take_succ_getD, cmpI_top (val_take_lt ha j) (val_take_lt hb j)]
  have p := ws_get ha j; have q := ws_get hb j
  by_cases h : a.getD j 0 < b.getD j 0
  ·rw [if_pos h, if_pos (by omega)]
  rw [if_neg h, if_neg (c := (a.getD j 0).toNat < (b.getD j 0).toNat) (by omega)]
  by_cases g : a.getD j 0 > b.getD j 0
  ·rw [if_pos g, if_pos (by omega)]
  rw [if_neg g, if_neg (by omega)]
theorem rcmp_eq (a b : List Int) (k : Nat) (ha : Ws a) (hb : Ws b) (na : a.length < 4611686018427387904) (nb : b.length < 4611686018427387904) (hk : a.length + b.length < k) : ulpref03_Cmp.f k a b = some (cmpI (val a) (val b)) := by
 unfold ulpref03_Cmp.f
 rw [mx_nat, wrapS (by omega) (by omega), rcmp_loop a b ha hb _ k (by omega) (by omega), val_take_ge _ _ (by omega), val_take_ge _ _ (by omega)]
theorem ofN_len_le {a b : Nat} (h : b ≤ a) : (ofN b).length ≤ (ofN a).length := by
 rcases Nat.lt_or_ge (ofN a).length (ofN b).length with g | g
 ·have := cmpI_len g; omega
 exact g
theorem ofN_len_succ (n m : Nat) : (ofN n).length ≤ m + 1 ↔ n < 18446744073709551616 ^ m * 18446744073709551616 := by rw [ofN_len, Nat.pow_succ]
theorem big_add_aux {p m a b : Nat} (hp : p = 18446744073709551616 ^ m) (ha : a < p) (hb : b < p) : (ofN (a + b)).length ≤ m + 1 := by
 refine (ofN_len_succ (a + b) m).2 ?_
 rw [← hp]; omega
theorem len_big {a : Nat} (ha : a < big) : (ofN a).length ≤ 1024 := (ofN_big a).2 ha
end Go.Proofs.YtnjfckadjklmfaaDoor.Nf
namespace Go.Proofs.YtnjfckadjklmfaaDoor.Nf
open Go.RowKit Go.Proofs.YtnjfckadjklmfaaDoor.PAll Go.Proofs.YtnjfckadjklmfaaDoorW.PrintWords Go.Proofs.YtnjfckadjklmfaaDoorW.PrintLast Go.Proofs.YtnjfckadjklmfaaDoorW.PrintMore Go.Proofs.YtnjfckadjklmfaaDoor.Nm
set_option linter.unusedVariables false
set_option linter.unusedSimpArgs false
theorem toNat_pow2 (s : Nat) : ((2 : Int) ^ s) = ((2 ^ s : Nat) : Int) := by simp
theorem shl_eq (w s : Nat) (hs : s ≤ 64) : shl .u64 (w : Int) (s : Int) = ((w * 2 ^ s % 18446744073709551616 : Nat) : Int) := by
 unfold shl
 rw [Int.toNat_natCast, Nat.min_eq_left (show s ≤ IntKind.u64.bits from hs), IntKind.wrap_u64, toNat_pow2, ← Int.natCast_mul]; rfl
theorem shr_eq (w s : Nat) (hs : s ≤ 64) : shr .u64 (w : Int) (s : Int) = ((w / 2 ^ s : Nat) : Int) := by
 unfold shr
 rw [Int.toNat_natCast, Nat.min_eq_left (show s ≤ IntKind.u64.bits from hs), toNat_pow2]
 rfl
theorem pow_split {s : Nat} (hs : s ≤ 64) : 2 ^ s * 2 ^ (64 - s) = 18446744073709551616 := by
 rw [← Nat.pow_add, Nat.add_sub_cancel' hs]
theorem or_add (a s c : Nat) (hc : c < 2 ^ s) : 2 ^ s * a ||| c = 2 ^ s * a + c := (Nat.two_pow_add_eq_or_of_lt hc a).symm
theorem shl_parts {w s : Nat} (hs : s ≤ 64) : w * 2 ^ s % 18446744073709551616 = 2 ^ s * (w % 2 ^ (64 - s)) ∧ w * 2 ^ s = w * 2 ^ s % 18446744073709551616 + 18446744073709551616 * (w / 2 ^ (64 - s)) := by
 have e : w * 2 ^ s % 18446744073709551616 = 2 ^ s * (w % 2 ^ (64 - s)) := by
  rw [← pow_split hs, Nat.mul_comm w, Nat.mul_mod_mul_left]
 refine ⟨e, ?_⟩
 have := Nat.div_add_mod w (2 ^ (64 - s))
 rw [e, ← pow_split hs, Nat.mul_assoc, ← Nat.mul_add, Nat.add_comm, this, Nat.mul_comm]
theorem or_shl {w s c : Nat} (hs : s ≤ 64) (hc : c < 2 ^ s) : Go.bits .or .u64 (shl .u64 (w : Int) (s : Int)) (c : Int) = ((w * 2 ^ s % 18446744073709551616 + c : Nat) : Int) := by
 have h2 : 2 ^ s ≤ 18446744073709551616 := by rw [← pow_split hs]; exact Nat.le_mul_of_pos_right _ (Nat.pow_pos (by decide))
 rw [shl_eq w s hs, u64_or_nat _ _ (Nat.mod_lt _ (by decide)) (by omega), (shl_parts hs).1, or_add _ _ _ hc]
theorem or_shl' {w s c : Nat} (hs : s ≤ 64) (hc : c < 2 ^ s) : Go.bits .or .u64 (c : Int) (shl .u64 (w : Int) (s : Int)) = ((w * 2 ^ s % 18446744073709551616 + c : Nat) : Int) := by
 have h2 : 2 ^ s ≤ 18446744073709551616 := by rw [← pow_split hs]; exact Nat.le_mul_of_pos_right _ (Nat.pow_pos (by decide))
 rw [shl_eq w s hs, u64_or_nat _ _ (by omega) (Nat.mod_lt _ (by decide)), Nat.or_comm, (shl_parts hs).1, or_add _ _ _ hc]
theorem or_shl_lt {w s c : Nat} (hs : s ≤ 64) (hc : c < 2 ^ s) : w * 2 ^ s % 18446744073709551616 + c < 18446744073709551616 := by
 rw [(shl_parts hs).1]
 have : w % 2 ^ (64 - s) < 2 ^ (64 - s) := Nat.mod_lt _ (Nat.pow_pos (by decide))
 have := Nat.mul_le_mul_left (2 ^ s) this
 rw [pow_split hs, Nat.mul_succ] at this
 omega
theorem shr_up_lt {w s : Nat} (hs : s ≤ 64) (hw : w < 18446744073709551616) : w / 2 ^ (64 - s) < 2 ^ s := by
 rw [Nat.div_lt_iff_lt_mul (Nat.pow_pos (by decide)), pow_split hs]; exact hw
theorem pow_parts (n : Nat) : 2 ^ n = 18446744073709551616 ^ (n / 64) * 2 ^ (n % 64) := by
 have e : 2 ^ n = 2 ^ (64 * (n / 64) + n % 64) := by rw [Nat.div_add_mod]
 rw [e, Nat.pow_add, Nat.pow_mul]
theorem shl_step {P Q vo c V S w lo d B : Nat} (e : w * S = lo + B * d) (hv : vo + P * Q * c = P * (V * S)) : vo + P * Q * (lo + c) + P * Q * B * d = P * ((V + Q * w) * S) := by
 rw [Nat.add_mul, Nat.mul_add P, ← hv, Nat.mul_assoc Q w S, e, ← Nat.mul_assoc P Q (lo + B * d), Nat.mul_add, Nat.mul_add, Nat.mul_assoc (P * Q) B d]
 omega
theorem wrap_add {a b : Nat} (h : a + b < 4611686018427387904) : wrap64 ((a : Int) + (b : Int)) = ((b + a : Nat) : Int) := by rw [wrapS (by omega) (by omega)]; omega
theorem asNat {x : Int} (h : 0 ≤ x) : x = ((x.toNat : Nat) : Int) := by omega
theorem rshl_loop (a : List Int) (ha : Ws a) (q s : Nat) (hs : s < 64) (na : a.length + q < 17592186044000) (r : Nat) : ∀ (j k : Nat) (o : List Int) (c : Nat), a.length - j = r → j ≤ a.length → r + a.length + q + 3 < k → o.length = q + j → Ws o → c < 2 ^ s →
  val o + 18446744073709551616 ^ (q + j) * c = 18446744073709551616 ^ q * (val (a.take j) * 2 ^ s) →
  ulpref03_Shl.l0 k o s c a a.length j = some (ofN (18446744073709551616 ^ q * (val a * 2 ^ s))) := by
 have h2 : 2 ^ s ≤ 18446744073709551616 := by rw [← pow_split (show s ≤ 64 by omega)]; exact Nat.le_mul_of_pos_right _ (Nat.pow_pos (by decide))
 induction r with
 | zero =>
  intro j k o c hr hj hk ho hw hc hv
  obtain ⟨k, rfl⟩ : ∃ m, k = m + 1 := ⟨k - 1, by omega⟩
  obtain rfl : j = a.length := by omega
  simp only [ulpref03_Shl.l0]
  rw [if_neg (by omega), if_pos (by omega), rnorm_eq _ k (ws_append.2 ⟨hw, ws_cons.2 ⟨by omega, ws_nil⟩⟩) (by simp; omega) (by simp; omega), bind_s, val_snoc, ho, Int.toNat_natCast, hv, val_take_ge _ _ (Nat.le_refl _)]
 | succ r ih =>
  intro j k o c hr hj hk ho hw hc hv
  obtain ⟨k, rfl⟩ : ∃ m, k = m + 1 := ⟨k - 1, by omega⟩
  have i1 : a.length - (j + 1) = r := by omega
  have i2 : j + 1 ≤ a.length := by omega
  have i3 : r + a.length + q + 3 < k := by omega
  have i4 : o.length < 17592186044416 := by omega
  simp only [ulpref03_Shl.l0]
  rw [if_pos (by omega), if_pos (by omega), if_pos (by omega), if_pos (by omega), if_pos i4, wrap_succ (by omega), rd_nat]
  obtain ⟨p0, p1⟩ := ws_get ha j
  have ew := asNat p0
  generalize hwn : (a.getD j 0).toNat = w at ew
  have w1 : w < 18446744073709551616 := by omega
  rw [ew, or_shl (by omega) hc, bind_s]
  have key : ∀ d : Nat, d = w / 2 ^ (64 - s) → ulpref03_Shl.l0 k (o ++ [((w * 2 ^ s % 18446744073709551616 + c : Nat) : Int)]) s d a a.length ((j + 1 : Nat) : Int) = some (ofN (18446744073709551616 ^ q * (val a * 2 ^ s))) := by
   intro d hd
   have l1 := or_shl_lt (w := w) (show s ≤ 64 by omega) hc
   have l2 : d < 2 ^ s := by rw [hd]; exact shr_up_lt (by omega) w1
   refine ih (j + 1) k _ d i1 i2 i3 (by rw [List.length_append, ho]; rfl) (ws_append.2 ⟨hw, ws_cons.2 ⟨⟨Int.natCast_nonneg _, by omega⟩, ws_nil⟩⟩) l2 ?_
   rw [val_snoc, ho, take_succ_getD a, hwn, Int.toNat_natCast]
   have e := (shl_parts (w := w) (s := s) (by omega)).2
   rw [← hd] at e
   rw [Nat.pow_add] at hv ⊢
   rw [Nat.pow_add, Nat.pow_succ, ← Nat.mul_assoc]
   exact shl_step e hv
  by_cases h : (s : Int) > 0
  ·have e64 : IntKind.u64.wrap (64 - (s : Int)) = ((64 - s : Nat) : Int) := by rw [IntKind.wrap_u64]; omega
   rw [if_pos h, e64, if_pos (by omega), shr_eq _ _ (by omega)]
   exact key _ rfl
  have : s = 0 := by omega
  rw [if_neg h]
  refine key 0 ?_
  subst this
  rw [Nat.div_eq_of_lt (show w < 2 ^ (64 - 0) from w1)]
theorem rshl_eq (a : List Int) (n : Nat) (k : Nat) (ha : Ws a) (hn : n < 4611686018427387904) (na : a.length + n / 64 < 17592186044000) (hk : 2 * a.length + n / 64 + 3 < k) : ulpref03_Shl.f k a n = some (ofN (val a * 2 ^ n)) := by
 unfold ulpref03_Shl.f
 have e1 : wrap64 (Int.tdiv (n : Int) 64) = ((n / 64 : Nat) : Int) := by
  rw [Int.tdiv_eq_ediv_of_nonneg (by omega), wrapS (by omega) (by omega)]; omega
 have e2 : IntKind.u64.wrap (Int.tmod (n : Int) 64) = ((n % 64 : Nat) : Int) := by
  rw [Int.tmod_eq_emod_of_nonneg (by omega), IntKind.wrap_u64]; omega
 rw [e1, e2, Int.toNat_natCast, if_pos (by omega), if_pos (by omega)]
 have := rshl_loop a ha (n / 64) (n % 64) (by omega) (by omega) _ 0 k (List.replicate (n / 64) 0) 0 rfl (by omega) (by omega) (by simp) (ws_replicate _) (Nat.pow_pos (by decide)) (by rw [val_replicate]; simp [val])
 rw [pow_parts n, Nat.mul_left_comm]
 exact this
theorem val_set2 (o : List Int) (i x y : Nat) (hi : i + 1 < o.length) : val (((o.set i (x : Int)).set (i + 1) (y : Int)).take (i + 2)) = val (o.take i) + 18446744073709551616 ^ i * x + 18446744073709551616 ^ (i + 1) * y := by
 rw [val_set_take _ _ _ (by rw [List.length_set]; exact hi), val_set_take _ _ _ (by omega), Int.toNat_natCast, Int.toNat_natCast]
theorem shl_loop (a : List Int) (ha : Ws a) (q s : Nat) (hs : s < 64) (na : a.length + q < 35184372088000) (r : Nat) : ∀ (j k : Nat) (o : List Int) (c : Nat), a.length - j = r → j ≤ a.length → r + a.length + q + 3 < k → o.length = a.length + q + 1 → Ws o → c < 2 ^ s → o.getD (q + j) 0 = c → (∀ i, q + j < i → o.getD i 0 = 0) →
  val (o.take (q + j)) + 18446744073709551616 ^ (q + j) * c = 18446744073709551616 ^ q * (val (a.take j) * 2 ^ s) →
  nat_number_shl.l0 k q s o a a.length j = some (ofN (18446744073709551616 ^ q * (val a * 2 ^ s))) := by
 have h2 : 2 ^ s ≤ 18446744073709551616 := by rw [← pow_split (show s ≤ 64 by omega)]; exact Nat.le_mul_of_pos_right _ (Nat.pow_pos (by decide))
 induction r with
 | zero =>
  intro j k o c hr hj hk ho hw hc hg hz hv
  obtain ⟨k, rfl⟩ : ∃ m, k = m + 1 := ⟨k - 1, by omega⟩
  obtain rfl : j = a.length := by omega
  simp only [nat_number_shl.l0]
  rw [if_neg (by omega), norm_eq _ _ k rfl hw (by omega) (by omega), bind_s]
  have e := val_take_succ o (q + a.length) (by omega)
  rw [hg, Int.toNat_natCast, hv, val_take_ge _ _ (by omega), val_take_ge _ _ (Nat.le_refl _)] at e
  rw [e]
 | succ r ih =>
  intro j k o c hr hj hk ho hw hc hg hz
  obtain ⟨k, rfl⟩ : ∃ m, k = m + 1 := ⟨k - 1, by omega⟩
  have i1 : a.length - (j + 1) = r := by omega
  have i2 : j + 1 ≤ a.length := by omega
  have i3 : r + a.length + q + 3 < k := by omega
  have i4 : q + j + 1 < o.length := by omega
  have b1 : j + q < 4611686018427387904 := by omega
  have b2 : q + j < 4611686018427387904 := by omega
  have b3 : j < 4611686018427387904 := by omega
  have g1 : (j : Int) < (a.length : Int) := by omega
  have g2 : ((q + j : Nat) : Int) < (o.length : Int) := by omega
  have g3 : ((q + j + 1 : Nat) : Int) < (o.length : Int) := by omega
  have hs' : s ≤ 64 := by omega
  have l0 : 2 ^ s ≤ 18446744073709551616 := h2
  have hz' : ∀ i, q + (j + 1) < i → q + j < i ∧ q + j + 1 ≠ i ∧ q + j ≠ i := fun i hi => by omega
  have hq1 : q + j < q + j + 1 := by omega
  intro hv
  simp only [nat_number_shl.l0]
  rw [if_pos g1, if_pos (Int.natCast_nonneg _), if_pos g1, wrap_add b1, wrap_succ b2, if_pos (Int.natCast_nonneg _), if_pos g2, if_pos (Int.natCast_nonneg _), wrap_succ b3]
  simp only [rd_nat, Int.toNat_natCast]
  obtain ⟨p0, p1⟩ := ws_get ha j
  have ew := asNat p0
  generalize hwn : (a.getD j 0).toNat = w at ew
  have w1 : w < 18446744073709551616 := Int.ofNat_lt.1 (ew ▸ p1)
  rw [ew, hg, or_shl' hs' hc, bind_s]
  have l1 := or_shl_lt (w := w) hs' hc
  have e := (shl_parts (w := w) (s := s) hs').2
  have key : ∀ d : Nat, d = w / 2 ^ (64 - s) → nat_number_shl.l0 k q s ((o.set (q + j) ((w * 2 ^ s % 18446744073709551616 + c : Nat) : Int)).set (q + j + 1) (d : Int)) a a.length ((j + 1 : Nat) : Int) = some (ofN (18446744073709551616 ^ q * (val a * 2 ^ s))) := by
   intro d hd
   have l2 : d < 2 ^ s := by rw [hd]; exact shr_up_lt hs' w1
   refine ih (j + 1) k _ d i1 i2 i3 (by rw [List.length_set, List.length_set]; exact ho) (ws_set (ws_set hw _ (Int.natCast_nonneg _) (Int.ofNat_lt.2 l1)) _ (Int.natCast_nonneg _) (Int.ofNat_lt.2 (Nat.lt_of_lt_of_le l2 h2))) l2 ?_ ?_ ?_
   ·exact Nm.getD_set_eq _ _ _ (by rw [List.length_set]; exact i4)
   ·intro i hi
    obtain ⟨z1, z2, z3⟩ := hz' i hi
    rw [Nm.getD_set_ne _ _ _ _ z2, Nm.getD_set_ne _ _ _ _ z3]
    exact hz i z1
   rw [← hd] at e
   have := val_take_succ ((o.set (q + j) ((w * 2 ^ s % 18446744073709551616 + c : Nat) : Int)).set (q + j + 1) (d : Int)) (q + j + 1) (by rw [List.length_set, List.length_set]; exact i4)
   rw [val_set2 _ _ _ _ i4, Nm.getD_set_eq _ _ _ (by rw [List.length_set]; exact i4), Int.toNat_natCast] at this
   have e3 : q + (j + 1) = q + j + 1 := rfl
   rw [e3]
   rw [← this, take_succ_getD a, hwn, Nat.pow_succ, Nat.pow_add]
   rw [Nat.pow_add] at hv
   exact shl_step e hv
  by_cases h : (s : Int) > 0
  ·have hs64 : 64 - s ≤ 64 := by omega
   have e64 : wrap64 (64 - (s : Int)) = ((64 - s : Nat) : Int) := by rw [wrapS (by omega) (by omega)]; omega
   rw [if_pos h, e64, if_pos (Int.natCast_nonneg _), if_pos (Int.natCast_nonneg _), if_pos g3, shr_eq _ _ hs64]
   exact key _ rfl
  have : s = 0 := by omega
  rw [if_neg h]
  have k0 := key 0 (by subst this; rw [Nat.div_eq_of_lt (show w < 2 ^ (64 - 0) from w1)])
  have same : ((o.set (q + j) ((w * 2 ^ s % 18446744073709551616 + c : Nat) : Int)).set (q + j + 1) ((0 : Nat) : Int)) = o.set (q + j) ((w * 2 ^ s % 18446744073709551616 + c : Nat) : Int) := by
   have h0 := hz (q + j + 1) hq1
   refine List.ext_getElem (by simp) fun i g1 g2 => ?_
   by_cases hi : i = q + j + 1
   ·subst hi
    rw [List.getElem_set_self, List.getElem_set_ne (by omega)]
    rw [List.getD_eq_getElem?_getD, List.getElem?_eq_getElem i4] at h0
    exact h0.symm
   rw [List.getElem_set_ne (by omega)]
  rw [same] at k0
  exact k0
end Go.Proofs.YtnjfckadjklmfaaDoor.Nf
namespace Go.Proofs.YtnjfckadjklmfaaDoor.Nf
open Go.RowKit Go.Proofs.YtnjfckadjklmfaaDoor.PAll Go.Proofs.YtnjfckadjklmfaaDoorW.PrintWords Go.Proofs.YtnjfckadjklmfaaDoorW.PrintLast Go.Proofs.YtnjfckadjklmfaaDoorW.PrintMore Go.Proofs.YtnjfckadjklmfaaDoor.Nm
set_option linter.unusedVariables false
set_option linter.unusedSimpArgs false
theorem or_shr {w w' s : Nat} (h0 : 0 < s) (hs : s < 64) (hw : w < 18446744073709551616) : Go.bits .or .u64 ((w / 2 ^ s : Nat) : Int) (shl .u64 (w' : Int) ((64 - s : Nat) : Int)) = ((w / 2 ^ s + 2 ^ (64 - s) * (w' % 2 ^ s) : Nat) : Int) := by
 have hc : w / 2 ^ s < 2 ^ (64 - s) := by
  rw [Nat.div_lt_iff_lt_mul (Nat.pow_pos (by decide)), Nat.mul_comm, pow_split (show s ≤ 64 by omega)]; exact hw
 rw [or_shl' (show 64 - s ≤ 64 by omega) hc, (shl_parts (w := w') (s := 64 - s) (by omega)).1]
 have e : 64 - (64 - s) = s := by omega
 rw [e, Nat.add_comm]
theorem shr_word_lt {w c s : Nat} (hs : s ≤ 64) (hw : w < 18446744073709551616) : w / 2 ^ s + 2 ^ (64 - s) * (c % 2 ^ s) < 18446744073709551616 := by
 have h1 : w / 2 ^ s < 2 ^ (64 - s) := by
  rw [Nat.div_lt_iff_lt_mul (Nat.pow_pos (by decide)), Nat.mul_comm, pow_split hs]; exact hw
 have h2 : c % 2 ^ s < 2 ^ s := Nat.mod_lt _ (Nat.pow_pos (by decide))
 have h3 := Nat.mul_le_mul_left (2 ^ (64 - s)) h2
 rw [Nat.mul_succ, Nat.mul_comm _ (2 ^ s), pow_split hs] at h3
 omega
theorem low_mod {w c s : Nat} (hs : s ≤ 64) : (w + 18446744073709551616 * c) % 2 ^ s = w % 2 ^ s := by
 rw [← pow_split hs, Nat.mul_assoc, Nat.add_mul_mod_self_left]
theorem val_mod (l : List Int) {s : Nat} (hs : s ≤ 64) : val l % 2 ^ s = (l.getD 0 0).toNat % 2 ^ s := by
 cases l with
 | nil => simp [val]
 | cons w l => rw [val_cons, low_mod hs]; rfl
theorem getD_drop (l : List Int) (q j : Nat) : (l.drop q).getD j 0 = l.getD (j + q) 0 := by
 rw [List.getD_eq_getElem?_getD, List.getD_eq_getElem?_getD, List.getElem?_drop, Nat.add_comm]
theorem shr_parts {a : List Int} (ha : Ws a) {q s : Nat} (hs : s < 64) (hq : q ≤ a.length) :
  val a / 2 ^ (64 * q + s) = val (a.drop q) / 2 ^ s ∧ (val a % 2 ^ (64 * q + s) ≠ 0 ↔ val (a.take q) ≠ 0 ∨ (a.getD q 0).toNat % 2 ^ s ≠ 0) := by
 have e : 2 ^ (64 * q + s) = 18446744073709551616 ^ q * 2 ^ s := by rw [Nat.pow_add, Nat.pow_mul]
 have ht := val_take_lt ha q
 obtain ⟨h1, h2⟩ := shr_all (S := 2 ^ s) ht (val_take_drop a q hq)
 rw [e, h1, h2, val_mod _ (by omega), getD_drop, Nat.zero_add]
 refine ⟨rfl, ?_⟩
 have hp := pow_pos q
 constructor
 ·intro h
  by_cases g : val (a.take q) = 0
  ·right; intro z; rw [g, z] at h; exact h rfl
  exact .inl g
 rintro (h | h)
 ·omega
 have : 0 < 18446744073709551616 ^ q * ((a.getD q 0).toNat % 2 ^ s) := Nat.mul_pos hp (by omega)
 omega
theorem lost_and {w s : Nat} (hs : s < 64) (hw : w < 18446744073709551616) : (Go.bits .and .u64 (w : Int) (IntKind.u64.wrap ((shl .u64 1 (s : Int)) - 1)) != 0) = decide (w % 2 ^ s ≠ 0) := by
 have h1 : shl .u64 1 (s : Int) = ((2 ^ s : Nat) : Int) := by
  have := shl_eq 1 s (by omega)
  rw [Nat.one_mul, Nat.mod_eq_of_lt (Nat.pow_lt_pow_right (by decide) hs : 2 ^ s < 2 ^ 64)] at this
  exact this
 have h2 : 2 ^ s < 18446744073709551616 := (Nat.pow_lt_pow_right (by decide) hs : 2 ^ s < 2 ^ 64)
 have h3 : 0 < 2 ^ s := Nat.pow_pos (by decide)
 have h4 : IntKind.u64.wrap (((2 ^ s : Nat) : Int) - 1) = ((2 ^ s - 1 : Nat) : Int) := by
  generalize 2 ^ s = p at *
  rw [IntKind.wrap_u64]; omega
 rw [h1, h4, u64_and_nat _ _ hw (by omega), Nat.and_two_pow_sub_one_eq_mod]
 rw [Bool.eq_iff_iff]; simp only [bne_iff_ne, decide_eq_true_eq]
 generalize w % 2 ^ s = z; omega
theorem lost_shl {w s : Nat} (h0 : 0 < s) (hs : s < 64) : ((shl .u64 (w : Int) ((64 - s : Nat) : Int)) != 0) = decide (w % 2 ^ s ≠ 0) := by
 rw [shl_eq _ _ (by omega), (shl_parts (w := w) (s := 64 - s) (by omega)).1]
 have e : 64 - (64 - s) = s := by omega
 rw [e]
 have hp : 0 < 2 ^ (64 - s) := Nat.pow_pos (by decide)
 rw [Bool.eq_iff_iff]
 by_cases h : w % 2 ^ s = 0
 ·simp [h]
 have := Nat.mul_pos hp (show 0 < w % 2 ^ s by omega)
 simp only [bne_iff_ne, decide_eq_true_eq]
 constructor
 ·intro _; exact h
 intro _ g; omega
theorem nshr_l1 (a : List Int) (ha : Ws a) (q s : Nat) (hs : s < 64) (lost : Bool) (hq : q < a.length) (na : a.length < 1152921504606846976) (r : Nat) : ∀ (j k : Nat) (o : List Int), a.length - q - j = r → j ≤ a.length - q → r + a.length + 3 < k → o.length = a.length - q → Ws o →
  2 ^ s * val (o.take j) + (a.getD q 0).toNat % 2 ^ s = val ((a.drop q).take j) + 18446744073709551616 ^ j * ((a.getD (j + q) 0).toNat % 2 ^ s) →
  nat_number_shr.l1 k a q s lost o ((a.length - q : Nat) : Int) j = some (ofN (val (a.drop q) / 2 ^ s), lost) := by
 induction r with
 | zero =>
  intro j k o hr hj hk ho hw hv
  obtain ⟨k, rfl⟩ : ∃ m, k = m + 1 := ⟨k - 1, by omega⟩
  obtain rfl : j = a.length - q := by omega
  simp only [nat_number_shr.l1]
  rw [if_neg (by omega), norm_eq _ _ k rfl hw (by omega) (by omega), bind_s]
  rw [getD_ge a (a.length - q + q) (by omega), val_take_ge o _ (by omega), val_take_ge (a.drop q) _ (by rw [List.length_drop]; omega)] at hv
  have h0 : (a.getD q 0).toNat % 2 ^ s < 2 ^ s := Nat.mod_lt _ (Nat.pow_pos (by decide))
  have := (shr_end h0 (show 2 ^ s * val o + (a.getD q 0).toNat % 2 ^ s = val (a.drop q) by rw [hv]; simp)).1
  rw [this]
 | succ r ih =>
  intro j k o hr hj hk ho hw hv
  obtain ⟨k, rfl⟩ : ∃ m, k = m + 1 := ⟨k - 1, by omega⟩
  have i1 : a.length - q - (j + 1) = r := by omega
  have i2 : j + 1 ≤ a.length - q := by omega
  have i3 : r + a.length + 3 < k := by omega
  have i4 : j < o.length := by omega
  have g1 : (j : Int) < ((a.length - q : Nat) : Int) := by omega
  have g2 : ((q + j : Nat) : Int) < (a.length : Int) := by omega
  have g3 : (j : Int) < (o.length : Int) := by omega
  have g4 : ((q + j + 1 : Nat) : Int) < (a.length : Int) ↔ q + j + 1 < a.length := by omega
  have b1 : j + q < 4611686018427387904 := by omega
  have b2 : q + j < 4611686018427387904 := by omega
  have b3 : j < 4611686018427387904 := by omega
  have hs' : s ≤ 64 := by omega
  have hs6 : 64 - s ≤ 64 := by omega
  have e1 : j + 1 + q = q + j + 1 := by omega
  have e2 : j + q = q + j := by omega
  have hsp : (s : Int) > 0 ↔ 0 < s := by omega
  have hs1 : -9223372036854775808 ≤ (64 : Int) - (s : Int) := by omega
  have hs2 : (64 : Int) - (s : Int) < 9223372036854775808 := by omega
  have hs3 : (64 : Int) - (s : Int) = ((64 - s : Nat) : Int) := by omega
  have hs0 : ¬ 0 < s → s = 0 := by omega
  have hge : ¬ q + j + 1 < a.length → a.length ≤ q + j + 1 := by omega
  simp only [nat_number_shr.l1]
  rw [if_pos g1, wrap_add b1, if_pos (Int.natCast_nonneg _), if_pos g2, if_pos (Int.natCast_nonneg _), if_pos (Int.natCast_nonneg _), if_pos g3, wrap_succ b2, wrap_succ b3, bind_s]
  simp only [rd_nat, Int.toNat_natCast]
  obtain ⟨p0, p1⟩ := ws_get ha (q + j)
  obtain ⟨p2, p3⟩ := ws_get ha (q + j + 1)
  have ew := asNat p0
  have ew' := asNat p2
  generalize hwn : (a.getD (q + j) 0).toNat = w at ew
  generalize hwn' : (a.getD (q + j + 1) 0).toNat = w' at ew'
  have w1 : w < 18446744073709551616 := Int.ofNat_lt.1 (ew ▸ p1)
  rw [ew, shr_eq _ _ hs', Nm.getD_set_eq _ _ _ i4, List.set_set]
  have key : ∀ v : Nat, v = w / 2 ^ s + 2 ^ (64 - s) * (w' % 2 ^ s) → nat_number_shr.l1 k a q s lost (o.set j (v : Int)) ((a.length - q : Nat) : Int) ((j + 1 : Nat) : Int) = some (ofN (val (a.drop q) / 2 ^ s), lost) := by
   intro v hv2
   have l1 : v < 18446744073709551616 := by rw [hv2]; exact shr_word_lt hs' w1
   refine ih (j + 1) k _ i1 i2 i3 (by rw [List.length_set]; exact ho) (ws_set hw _ (Int.natCast_nonneg _) (Int.ofNat_lt.2 l1)) ?_
   rw [val_set_take o j _ i4, take_succ_getD, getD_drop, e1, e2, hwn', hwn, Int.toNat_natCast, Nat.pow_succ]
   rw [e2, hwn] at hv
   exact shr_step (pow_split hs') hv2 hv
  by_cases h : 0 < s
  ·rw [if_pos (hsp.2 h)]
   by_cases g : q + j + 1 < a.length
   ·rw [if_pos (g4.2 g), if_pos (Int.natCast_nonneg _), wrapS hs1 hs2, hs3, if_pos (Int.natCast_nonneg _), ew', or_shr h hs w1]
    exact key _ rfl
   rw [if_neg (fun x => g (g4.1 x))]
   refine key _ ?_
   rw [getD_ge a _ (hge g)] at hwn'
   have : w' = 0 := hwn'.symm
   rw [this]; simp
  have h00 := hs0 h
  rw [if_neg (fun x => h (hsp.1 x))]
  refine key _ ?_
  rw [h00]; simp [Nat.mod_one]
theorem bne_toNat {x : Int} (h : 0 ≤ x) : (x != 0) = decide (x.toNat ≠ 0) := by rw [Bool.eq_iff_iff]; simp; omega
theorem or_step (lost : Bool) (a b : Nat) : (lost || decide (a + 18446744073709551616 * b ≠ 0)) = ((lost || decide (a ≠ 0)) || decide (b ≠ 0)) := by
 rw [Bool.eq_iff_iff]
 cases lost <;> simp
 omega
theorem nshr_l0 (a : List Int) (ha : Ws a) (q s : Nat) (hs : s < 64) (hq : q < a.length) (na : a.length < 35184372088832) (r : Nat) : ∀ (j k : Nat) (lost : Bool), q - j = r → j ≤ q → r + 2 * a.length + 5 < k →
  nat_number_shr.l0 k a q s lost (a.take q) q j = some (ofN (val (a.drop q) / 2 ^ s), lost || decide (val ((a.take q).drop j) ≠ 0)) := by
 have hl : (a.take q).length = q := by rw [List.length_take]; omega
 induction r with
 | zero =>
  intro j k lost hr hj hk
  obtain ⟨k, rfl⟩ : ∃ m, k = m + 1 := ⟨k - 1, by omega⟩
  obtain rfl : j = q := by omega
  have e : wrap64 ((a.length : Int) - (j : Int)) = ((a.length - j : Nat) : Int) := by rw [wrapS (by omega) (by omega)]; omega
  have hv : val ((a.take j).drop j) = 0 := by
   rw [List.drop_eq_nil_of_le (by omega)]; rfl
  have := nshr_l1 a ha j s hs lost hq (by omega) _ 0 k (List.replicate (a.length - j) 0) rfl (by omega) (by omega) (by simp) (ws_replicate _) (by simp [val])
  simp only [nat_number_shr.l0]
  rw [e, if_neg (by omega), if_pos (by omega), if_pos (by rw [Int.toNat_natCast]; omega), bind_s, Int.toNat_natCast, List.length_replicate, hv]
  simpa using this
 | succ r ih =>
  intro j k lost hr hj hk
  obtain ⟨k, rfl⟩ : ∃ m, k = m + 1 := ⟨k - 1, by omega⟩
  have b3 : j < 4611686018427387904 := by omega
  have hd := val_drop (a.take q) j (by omega)
  obtain ⟨p0, p1⟩ := ws_get (ws_take ha q) j
  have i1 : q - (j + 1) = r := by omega
  have i2 : j + 1 ≤ q := by omega
  have i3 : r + 2 * a.length + 5 < k := by omega
  simp only [nat_number_shr.l0]
  rw [if_pos (by omega), if_pos (by omega), if_pos (by omega), wrap_succ b3, rd_nat, ih _ k _ i1 i2 i3, ih _ k _ i1 i2 i3, hd, or_step, bne_toNat p0]
  cases lost <;> simp
theorem nshr_eq (a : List Int) (n k : Nat) (ha : Ws a) (hn : n < 9223372036854775808) (na : a.length < 35184372088832) (hz : val a = 0 → a = []) (hk : 3 * a.length + 10 < k) :
  nat_number_shr.f k a n = some (ofN (val a / 2 ^ n), decide (val a % 2 ^ n ≠ 0)) := by
 unfold nat_number_shr.f
 have e1 : wrap64 (Int.tdiv (n : Int) 64) = ((n / 64 : Nat) : Int) := by
  rw [Int.tdiv_eq_ediv_of_nonneg (by omega), wrapS (by omega) (by omega)]; omega
 have e2 : Int.tmod (n : Int) 64 = ((n % 64 : Nat) : Int) := by
  rw [Int.tmod_eq_emod_of_nonneg (by omega)]; omega
 have en : n = 64 * (n / 64) + n % 64 := by omega
 have hs : n % 64 < 64 := by omega
 rw [e1, e2]
 generalize n / 64 = q at *
 generalize n % 64 = s at *
 by_cases h : a.length ≤ q
 ·rw [if_pos (by omega)]
  have h1 : val a < 2 ^ n := by
   refine Nat.lt_of_lt_of_le (val_lt ha) ?_
   have e : 18446744073709551616 ^ a.length = 2 ^ (64 * a.length) := by rw [Nat.pow_mul]
   rw [e]; exact Nat.pow_le_pow_right (by decide) (by omega)
  rw [Nat.div_eq_of_lt h1, Nat.mod_eq_of_lt h1, ofN_zero]
  congr 2
  rw [decide_eq_decide]
  constructor
  ·intro g z; rw [hz z] at g; simp at g
  intro g
  have : a ≠ [] := fun z => g (by rw [z]; rfl)
  have := List.length_pos_iff.2 this
  omega
 have c1 : ¬ ((q : Int) ≥ (a.length : Int)) := by omega
 have c2 : (q : Int) < (a.length : Int) := by omega
 have c3 : (q : Int) ≤ (a.length : Int) := by omega
 have c4 : max (q : Int) 0 = (q : Int) := by omega
 have c5 : q < a.length := by omega
 have c6 : q + 2 * a.length + 5 < k := by omega
 rw [if_neg c1, if_pos (Int.natCast_nonneg _), if_pos c2, if_pos (Int.natCast_nonneg _), if_pos c3, c4, rd_nat, Int.toNat_natCast]
 obtain ⟨p0, p1⟩ := ws_get ha q
 have ew := asNat p0
 obtain ⟨h1, h2⟩ := shr_parts ha hs (Nat.le_of_lt c5)
 generalize hwn : (a.getD q 0).toNat = w at *
 have w1 : w < 18446744073709551616 := Int.ofNat_lt.1 (ew ▸ p1)
 rw [ew, lost_and hs w1]
 have := nshr_l0 a ha q s hs c5 na _ 0 k (decide (w % 2 ^ s ≠ 0)) rfl (Nat.zero_le _) c6
 rw [List.drop_zero] at this
 rw [en, h1]
 refine this.trans ?_
 congr 2
 rw [Bool.eq_iff_iff, Bool.or_eq_true, decide_eq_true_eq, decide_eq_true_eq, decide_eq_true_eq, h2, Or.comm]
end Go.Proofs.YtnjfckadjklmfaaDoor.Nf
namespace Go.Proofs.YtnjfckadjklmfaaDoor.Nf
open Go.RowKit Go.Proofs.YtnjfckadjklmfaaDoor.PAll Go.Proofs.YtnjfckadjklmfaaDoorW.PrintWords Go.Proofs.YtnjfckadjklmfaaDoorW.PrintLast Go.Proofs.YtnjfckadjklmfaaDoorW.PrintMore Go.Proofs.YtnjfckadjklmfaaDoor.Nm
set_option linter.unusedVariables false
set_option linter.unusedSimpArgs false
theorem rlen_loop (w : Nat) : ∀ (m k : Nat), w < 18446744073709551616 → m + bl w < 4611686018427387904 → bl w < k → ulpref03_Len.l0 k m w = some ((m + bl w : Nat) : Int) := by
 induction w using Nat.strongRecOn with
 | _ w ih =>
  intro m k hw hm hk
  obtain ⟨k, rfl⟩ : ∃ z, k = z + 1 := ⟨k - 1, by omega⟩
  simp only [ulpref03_Len.l0]
  by_cases h : w = 0
  ·subst h; rw [if_neg (by omega), bl_zero]; rfl
  rw [bl_pos h] at hm hk ⊢
  have e : IntKind.u64.wrap (Int.tdiv (w : Int) 2) = ((w / 2 : Nat) : Int) := by
   rw [Int.tdiv_eq_ediv_of_nonneg (by omega), wrapU (by omega) (by omega)]; omega
  rw [if_pos (by omega), wrap_succ (by omega), e, ih (w / 2) (by omega) (m + 1) k (by omega) (by omega) (by omega)]
  congr 2; omega
theorem bl_word {w : Nat} (h : w < 18446744073709551616) : bl w ≤ 64 := bl_le_iff.2 h
theorem ofN_last {v : Nat} (h : v ≠ 0) : ∃ m t w : Nat, (ofN v).length = m + 1 ∧ v = t + 18446744073709551616 ^ m * w ∧ t < 18446744073709551616 ^ m ∧ w ≠ 0 ∧ w < 18446744073709551616 ∧ (ofN v).getD m 0 = (w : Int) := by
 have hl : ofN v ≠ [] := fun z => h (ofN_ne.1 z)
 have hp := List.length_pos_iff.2 hl
 obtain ⟨m, hm⟩ : ∃ m, (ofN v).length = m + 1 := ⟨(ofN v).length - 1, by omega⟩
 have hv := val_take_succ (ofN v) m (by omega)
 rw [val_take_ge _ _ (by omega), val_ofN] at hv
 obtain ⟨p0, p1⟩ := ws_get (ws_ofN v) m
 have ht := val_take_lt (ws_ofN v) m
 refine ⟨m, _, ((ofN v).getD m 0).toNat, hm, hv, ht, ?_, by omega, by omega⟩
 intro z
 rw [z, Nat.mul_zero, Nat.add_zero] at hv
 have := (ofN_len v m).2 (by omega)
 omega
theorem len_bl {v : Nat} (h : v ≠ 0) : ∃ m w : Nat, (ofN v).length = m + 1 ∧ bl v = 64 * m + bl w ∧ w ≠ 0 ∧ w < 18446744073709551616 ∧ (ofN v).getD m 0 = (w : Int) := by
 obtain ⟨m, t, w, h1, h2, h3, h4, h5, h6⟩ := ofN_last h
 refine ⟨m, w, h1, ?_, h4, h5, h6⟩
 rw [h2, bl_top h3 h4]
theorem rlen_eq (a : List Int) (k : Nat) (ha : Ws a) (na : a.length < 17592186044000) (hk : a.length + 100 < k) : ulpref03_Len.f k a = some ((bl (val a) : Nat) : Int) := by
 unfold ulpref03_Len.f
 have hlen : (ofN (val a)).length ≤ a.length := (ofN_len _ _).2 (val_lt ha)
 rw [rnorm_eq a k ha (by omega) (by omega), bind_s]
 by_cases h : val a = 0
 ·rw [h, ofN_zero, bl_zero]; rfl
 obtain ⟨m, w, h1, h2, h3, h4, h5⟩ := len_bl h
 have hb := bl_word h4
 have e1 : wrap64 (((ofN (val a)).length : Int) - 1) = (m : Int) := by rw [wrapS (by omega) (by omega)]; omega
 have e2 : wrap64 (64 * (m : Int)) = ((64 * m : Nat) : Int) := by rw [wrapS (by omega) (by omega)]; omega
 have hk2 : bl w < k := by omega
 have hm : 64 * m + bl w < 4611686018427387904 := by omega
 rw [if_neg (by omega), e1, e2, if_pos (by omega), if_pos (by omega), rd_nat, h5, rlen_loop w _ k h4 hm hk2, h2]
theorem rshr_l1 (a : List Int) (ha : Ws a) (q s : Nat) (n : Int) (hn : wrap64 (Int.tdiv n 64) = (q : Int)) (hs : s < 64) (lost : Bool) (hq : q < a.length) (na : a.length < 17592186044000) (r : Nat) : ∀ (j k : Nat) (o : List Int), a.length - q - j = r → j ≤ a.length - q → r + a.length + 3 < k → o.length = j → Ws o →
  2 ^ s * val o + (a.getD q 0).toNat % 2 ^ s = val ((a.drop q).take j) + 18446744073709551616 ^ j * ((a.getD (j + q) 0).toNat % 2 ^ s) →
  ulpref03_Shr.l1 k a n lost s o ((j + q : Nat) : Int) = some (ofN (val (a.drop q) / 2 ^ s), lost || decide ((a.getD q 0).toNat % 2 ^ s ≠ 0)) := by
 induction r with
 | zero =>
  intro j k o hr hj hk ho hw hv
  obtain ⟨k, rfl⟩ : ∃ m, k = m + 1 := ⟨k - 1, by omega⟩
  obtain rfl : j = a.length - q := by omega
  have f1 := rnorm_eq o k hw (by omega) (by omega)
  have c1 : ¬ (((a.length - q + q : Nat) : Int) < (a.length : Int)) := by omega
  have c2 : (q : Int) < (a.length : Int) := by omega
  have hsp : (s : Int) > 0 ↔ 0 < s := by omega
  have hs3 : IntKind.u64.wrap (64 - (s : Int)) = ((64 - s : Nat) : Int) := by rw [IntKind.wrap_u64]; omega
  have hs0 : ¬ 0 < s → s = 0 := by omega
  rw [getD_ge a (a.length - q + q) (by omega), val_take_ge (a.drop q) _ (by rw [List.length_drop]; omega)] at hv
  have h0 : (a.getD q 0).toNat % 2 ^ s < 2 ^ s := Nat.mod_lt _ (Nat.pow_pos (by decide))
  have h1 := (shr_end h0 (show 2 ^ s * val o + (a.getD q 0).toNat % 2 ^ s = val (a.drop q) by rw [hv]; simp)).1
  simp only [ulpref03_Shr.l1]
  rw [if_neg c1, hn, hs3, if_pos (Int.natCast_nonneg _), if_pos c2, if_pos (Int.natCast_nonneg _), f1, bind_s, bind_s, bind_s, h1, rd_nat]
  by_cases h : 0 < s
  ·rw [if_pos (hsp.2 h)]
   obtain ⟨p0, p1⟩ := ws_get ha q
   have ew := asNat p0
   generalize hwn : (a.getD q 0).toNat = w at *
   rw [ew, lost_shl h hs]
   cases lost <;> simp
  rw [if_neg (fun x => h (hsp.1 x)), hs0 h]
  simp [Nat.mod_one]
 | succ r ih =>
  intro j k o hr hj hk ho hw hv
  obtain ⟨k, rfl⟩ : ∃ m, k = m + 1 := ⟨k - 1, by omega⟩
  have i1 : a.length - q - (j + 1) = r := by omega
  have i2 : j + 1 ≤ a.length - q := by omega
  have i3 : r + a.length + 3 < k := by omega
  have i4 : o.length < 17592186044416 := by omega
  have g2 : ((j + q : Nat) : Int) < (a.length : Int) := by omega
  have b2 : j + q < 4611686018427387904 := by omega
  have hs' : s ≤ 64 := by omega
  have hs6 : 64 - s ≤ 64 := by omega
  have e1 : j + 1 + q = j + q + 1 := by omega
  have hsp : (s : Int) > 0 ↔ 0 < s := by omega
  have hs3 : IntKind.u64.wrap (64 - (s : Int)) = ((64 - s : Nat) : Int) := by rw [IntKind.wrap_u64]; omega
  have hs0 : ¬ 0 < s → s = 0 := by omega
  simp only [ulpref03_Shr.l1]
  rw [if_pos g2, if_pos (Int.natCast_nonneg _), if_pos (Int.natCast_nonneg _), wrap_succ b2, word_eq, bind_s, hs3, if_pos (Int.natCast_nonneg _)]
  simp only [rd_nat]
  obtain ⟨p0, p1⟩ := ws_get ha (j + q)
  obtain ⟨p2, p3⟩ := ws_get ha (j + q + 1)
  have ew := asNat p0
  have ew' := asNat p2
  generalize hwn : (a.getD (j + q) 0).toNat = w at ew
  generalize hwn' : (a.getD (j + q + 1) 0).toNat = w' at ew'
  have w1 : w < 18446744073709551616 := Int.ofNat_lt.1 (ew ▸ p1)
  rw [ew, shr_eq _ _ hs', ew']
  have key : ∀ v : Nat, v = w / 2 ^ s + 2 ^ (64 - s) * (w' % 2 ^ s) → ulpref03_Shr.l1 k a n lost s (o ++ [(v : Int)]) ((j + q + 1 : Nat) : Int) = some (ofN (val (a.drop q) / 2 ^ s), lost || decide ((a.getD q 0).toNat % 2 ^ s ≠ 0)) := by
   intro v hv2
   have l1 : v < 18446744073709551616 := by rw [hv2]; exact shr_word_lt hs' w1
   rw [← e1]
   refine ih (j + 1) k _ i1 i2 i3 (by rw [List.length_append, ho]; rfl) (ws_append.2 ⟨hw, ws_cons.2 ⟨⟨Int.natCast_nonneg _, Int.ofNat_lt.2 l1⟩, ws_nil⟩⟩) ?_
   rw [val_snoc, ho, take_succ_getD, getD_drop, e1, hwn', hwn, Int.toNat_natCast, Nat.pow_succ]
   rw [hwn] at hv
   exact shr_step (pow_split hs') hv2 hv
  by_cases h : 0 < s
  ·rw [if_pos (hsp.2 h), if_pos i4, or_shr h hs w1]
   exact key _ rfl
  have h00 := hs0 h
  rw [if_neg (fun x => h (hsp.1 x)), if_pos i4]
  refine key _ ?_
  rw [h00]; simp [Nat.mod_one]
theorem rshr_l0 (a : List Int) (ha : Ws a) (q s : Nat) (n : Int) (hn : wrap64 (Int.tdiv n 64) = (q : Int)) (hm : IntKind.u64.wrap (Int.tmod n 64) = (s : Int)) (hs : s < 64) (hq : q < a.length) (na : a.length < 17592186044000) (r : Nat) : ∀ (j k : Nat) (lost : Bool), q - j = r → j ≤ q → r + 2 * a.length + 5 < k →
  ulpref03_Shr.l0 k a n lost (a.take q) q j = some (ofN (val (a.drop q) / 2 ^ s), (lost || decide (val ((a.take q).drop j) ≠ 0)) || decide ((a.getD q 0).toNat % 2 ^ s ≠ 0)) := by
 have hl : (a.take q).length = q := by rw [List.length_take]; omega
 induction r with
 | zero =>
  intro j k lost hr hj hk
  obtain ⟨k, rfl⟩ : ∃ m, k = m + 1 := ⟨k - 1, by omega⟩
  obtain rfl : j = q := by omega
  have c1 : ¬ ((j : Int) < (j : Int)) := by omega
  have hv : val ((a.take j).drop j) = 0 := by
   rw [List.drop_eq_nil_of_le (by omega)]; rfl
  have := rshr_l1 a ha j s n hn hs lost hq na _ 0 k [] rfl (by omega) (by omega) rfl ws_nil (by simp [val])
  simp only [ulpref03_Shr.l0]
  rw [if_neg c1, hm, hn, hv]
  simpa using this
 | succ r ih =>
  intro j k lost hr hj hk
  obtain ⟨k, rfl⟩ : ∃ m, k = m + 1 := ⟨k - 1, by omega⟩
  have b3 : j < 4611686018427387904 := by omega
  have hd := val_drop (a.take q) j (by omega)
  obtain ⟨p0, p1⟩ := ws_get (ws_take ha q) j
  have i1 : q - (j + 1) = r := by omega
  have i2 : j + 1 ≤ q := by omega
  have i3 : r + 2 * a.length + 5 < k := by omega
  have c1 : (j : Int) < (q : Int) := by omega
  have c2 : (j : Int) < ((a.take q).length : Int) := by omega
  simp only [ulpref03_Shr.l0]
  rw [if_pos c1, if_pos (Int.natCast_nonneg _), if_pos c2, wrap_succ b3, rd_nat, ih _ k _ i1 i2 i3, ih _ k _ i1 i2 i3, hd, or_step, bne_toNat p0]
  cases lost <;> simp
theorem rshr_eq (a : List Int) (n k : Nat) (ha : Ws a) (hn : n < 9223372036854775808) (na : a.length < 17592186044000) (hk : 3 * a.length + 200 < k) :
  ulpref03_Shr.f k a n = some (ofN (val a / 2 ^ n), decide (val a % 2 ^ n ≠ 0)) := by
 unfold ulpref03_Shr.f
 have e1 : wrap64 (Int.tdiv (n : Int) 64) = ((n / 64 : Nat) : Int) := by
  rw [Int.tdiv_eq_ediv_of_nonneg (by omega), wrapS (by omega) (by omega)]; omega
 have e2 : IntKind.u64.wrap (Int.tmod (n : Int) 64) = ((n % 64 : Nat) : Int) := by
  rw [Int.tmod_eq_emod_of_nonneg (by omega), IntKind.wrap_u64]; omega
 have e3 : wrap64 (64 * (a.length : Int)) = ((64 * a.length : Nat) : Int) := by rw [wrapS (by omega) (by omega)]; omega
 by_cases h : 64 * a.length ≤ n
 ·rw [e3, if_pos (by omega), rlen_eq a k ha na (by omega), bind_s]
  have h1 : val a < 2 ^ n := by
   refine Nat.lt_of_lt_of_le (val_lt ha) ?_
   have e : 18446744073709551616 ^ a.length = 2 ^ (64 * a.length) := by rw [Nat.pow_mul]
   rw [e]; exact Nat.pow_le_pow_right (by decide) h
  rw [Nat.div_eq_of_lt h1, Nat.mod_eq_of_lt h1, ofN_zero]
  congr 2
  rw [decide_eq_decide]
  have := bl_eq_zero (n := val a)
  omega
 have c1 : ¬ ((n : Int) ≥ ((64 * a.length : Nat) : Int)) := by omega
 have en : n = 64 * (n / 64) + n % 64 := by omega
 have hs : n % 64 < 64 := by omega
 have c5 : n / 64 < a.length := by omega
 have c3 : ((n / 64 : Nat) : Int) ≤ (a.length : Int) := by omega
 have c4 : max ((n / 64 : Nat) : Int) 0 = ((n / 64 : Nat) : Int) := by omega
 have c6 : n / 64 + 2 * a.length + 5 < k := by omega
 have := rshr_l0 a ha (n / 64) (n % 64) n e1 e2 hs c5 na _ 0 k false rfl (Nat.zero_le _) c6
 obtain ⟨h1, h2⟩ := shr_parts ha hs (Nat.le_of_lt c5)
 rw [← en] at h1 h2
 rw [e3, if_neg c1, e1, if_pos (Int.natCast_nonneg _), if_pos c3, c4, Int.toNat_natCast, h1]
 refine this.trans ?_
 rw [List.drop_zero]
 congr 2
 rw [Bool.eq_iff_iff, Bool.or_eq_true, Bool.false_or, decide_eq_true_eq, decide_eq_true_eq, decide_eq_true_eq, h2]
theorem getD_rep (n i : Nat) : (List.replicate n (0 : Int)).getD i 0 = 0 := by
 rw [List.getD_eq_getElem?_getD, List.getElem?_replicate]; split <;> rfl
theorem nshl_eq (a : List Int) (n k : Nat) (ha : Ws a) (hn : n < 4611686018427387904) (h0 : a ≠ []) (na : a.length + n / 64 < 35184372088000) (hk : 2 * a.length + n / 64 + 10 < k) : nat_number_shl.f k a n = some (ofN (val a * 2 ^ n)) := by
 unfold nat_number_shl.f
 have e1 : wrap64 (Int.tdiv (n : Int) 64) = ((n / 64 : Nat) : Int) := by
  rw [Int.tdiv_eq_ediv_of_nonneg (by omega), wrapS (by omega) (by omega)]; omega
 have e2 : Int.tmod (n : Int) 64 = ((n % 64 : Nat) : Int) := by
  rw [Int.tmod_eq_emod_of_nonneg (by omega)]; omega
 have hl := List.length_pos_iff.2 h0
 have e3 : wrap64 ((wrap64 ((a.length : Int) + ((n / 64 : Nat) : Int))) + 1) = ((a.length + n / 64 + 1 : Nat) : Int) := by
  rw [wrapS (x := (a.length : Int) + ((n / 64 : Nat) : Int)) (by omega) (by omega), wrapS (by omega) (by omega)]; omega
 have c1 : ((a.length + n / 64 + 1 : Nat) : Int).toNat ≤ 35184372088832 := by rw [Int.toNat_natCast]; omega
 have c2 : ¬ ((a.length : Int) = 0) := by omega
 have := shl_loop a ha (n / 64) (n % 64) (by omega) na _ 0 k (List.replicate (a.length + n / 64 + 1) 0) 0 rfl (by omega) (by omega) (by simp) (ws_replicate _) (Nat.pow_pos (by decide)) (by rw [getD_rep]; rfl) (fun i _ => getD_rep _ _) (by simp [val_replicate, val])
 rw [if_neg c2, e1, e2, e3, if_pos (Int.natCast_nonneg _), if_pos c1, Int.toNat_natCast, pow_parts n, Nat.mul_left_comm]
 exact this
end Go.Proofs.YtnjfckadjklmfaaDoor.Nf
namespace Go.Proofs.YtnjfckadjklmfaaDoor.Nf
open Go.RowKit Go.Proofs.YtnjfckadjklmfaaDoor.PAll Go.Proofs.YtnjfckadjklmfaaDoorW.PrintWords Go.Proofs.YtnjfckadjklmfaaDoorW.PrintLast Go.Proofs.YtnjfckadjklmfaaDoorW.PrintMore Go.Proofs.YtnjfckadjklmfaaDoor.Nm
set_option linter.unusedVariables false
set_option linter.unusedSimpArgs false
def shlS (v : Nat) (n : Int) : List Int × Int := if v < big then (if n < 0 then ([], 2) else if v = 0 then ([], 0) else if bl v + n.toNat ≤ 65536 then (ofN (v * 2 ^ n.toNat), 0) else ([], 3)) else ([], 3)
def shrS (v : Nat) (n : Int) : List Int × Bool × Int := if v < big then (if n < 0 then ([], false, 2) else (ofN (v / 2 ^ n.toNat), decide (v % 2 ^ n.toNat ≠ 0), 0)) else ([], false, 3)
theorem ofN_zero_iff {v : Nat} : (ofN v).length = 0 ↔ v = 0 := by rw [List.length_eq_zero_iff, ofN_ne]
theorem Shl_eq (a : List Int) (n : Int) (k : Nat) (ha : Ws a) (na : a.length < 17592186044000) (hk : 4 * a.length + 10000 < k) : nat_Shl.f k a n = some (shlS (val a) n) := by
 unfold nat_Shl.f shlS
 rw [one_eq a k ha (by omega) (by omega), bind_s]
 by_cases h : val a < big
 ·have hl := len_big h
  simp only [if_pos h]
  rw [if_pos trivial]
  by_cases g : n < 0
  ·rw [if_pos g, if_pos g]
  obtain ⟨m, rfl⟩ : ∃ m : Nat, n = (m : Int) := ⟨n.toNat, by omega⟩
  rw [if_neg g, if_neg g, Int.toNat_natCast]
  by_cases z : val a = 0
  ·have z' := ofN_zero_iff.2 z
   rw [if_pos z, if_pos (by omega)]
  have z' : (ofN (val a)).length ≠ 0 := fun x => z (ofN_zero_iff.1 x)
  have hb := bl_ne z
  rw [if_neg z, if_neg (by omega)]
  by_cases w : bl (val a) + m ≤ 65536
  ·have hm : m / 64 ≤ 1024 := by omega
   have hr := (shl_big z).2 w
   rw [if_pos w, if_neg (by omega), nshl_eq _ _ _ (ws_ofN _) (by omega) (fun x => z' (by rw [x]; rfl)) (by omega) (by omega), bind_s, val_ofN, answer_eq, bind_s, if_pos hr]
  rw [if_neg w]
  by_cases u : (m : Int) > 65536
  ·rw [if_pos u]
  have hm : m / 64 ≤ 1024 := by omega
  have hr : ¬ val a * 2 ^ m < big := fun x => w ((shl_big z).1 x)
  rw [if_neg u, nshl_eq _ _ _ (ws_ofN _) (by omega) (fun x => z' (by rw [x]; rfl)) (by omega) (by omega), bind_s, val_ofN, answer_eq, bind_s, if_neg hr]
 simp only [if_neg h]
 rw [if_neg (by decide)]
theorem Shr_eq (a : List Int) (n : Int) (k : Nat) (ha : Ws a) (hn : n < 9223372036854775808) (na : a.length < 17592186044000) (hk : 4 * a.length + 10000 < k) : nat_Shr.f k a n = some (shrS (val a) n) := by
 unfold nat_Shr.f shrS
 rw [one_eq a k ha (by omega) (by omega), bind_s]
 by_cases h : val a < big
 ·have hl := len_big h
  simp only [if_pos h]
  rw [if_pos trivial]
  by_cases g : n < 0
  ·rw [if_pos g, if_pos g]
  obtain ⟨m, rfl⟩ : ∃ m : Nat, n = (m : Int) := ⟨n.toNat, by omega⟩
  have hd : (ofN (val a / 2 ^ m)).length ≤ 1024 := len_big (Nat.lt_of_le_of_lt (Nat.div_le_self _ _) h)
  rw [if_neg g, if_neg g, Int.toNat_natCast, nshr_eq _ _ _ (ws_ofN _) (by omega) (by omega) (fun x => by rw [val_ofN] at x; exact ofN_ne.2 x) (by omega), bind_s, val_ofN]
  have ho := own_eq (ofN (val a / 2 ^ m)) (by omega)
  dsimp only
  rw [ho, bind_s]
 simp only [if_neg h]
 rw [if_neg (by decide)]
end Go.Proofs.YtnjfckadjklmfaaDoor.Nf
namespace Go.Proofs.YtnjfckadjklmfaaDoor.Nf
open Go.RowKit Go.Proofs.YtnjfckadjklmfaaDoor.PAll Go.Proofs.YtnjfckadjklmfaaDoorW.PrintWords Go.Proofs.YtnjfckadjklmfaaDoorW.PrintLast Go.Proofs.YtnjfckadjklmfaaDoorW.PrintMore Go.Proofs.YtnjfckadjklmfaaDoor.Nm
set_option linter.unusedVariables false
set_option linter.unusedSimpArgs false
theorem divN (x n : Nat) : (x : Int) / (n : Int) = ((x / n : Nat) : Int) := (Int.natCast_ediv x n).symm
theorem tmodN (x n : Nat) : Int.tmod (x : Int) (n : Int) = ((x % n : Nat) : Int) := (Int.ofNat_tmod x n).symm
theorem len8_fit : ∀ i : Fin 256, (i.val = 0 ∧ bt (⟨#[0, 1, 2, 2, 3, 3, 3, 3, 4, 4, 4, 4, 4, 4, 4, 4, 5, 5, 5, 5, 5, 5, 5, 5, 5, 5, 5, 5, 5, 5, 5, 5, 6, 6, 6, 6, 6, 6, 6, 6, 6, 6, 6, 6, 6, 6, 6, 6, 6, 6, 6, 6, 6, 6, 6, 6, 6, 6, 6, 6, 6, 6, 6, 6, 7, 7, 7, 7, 7, 7, 7, 7, 7, 7, 7, 7, 7, 7, 7, 7, 7, 7, 7, 7, 7, 7, 7, 7, 7, 7, 7, 7, 7, 7, 7, 7, 7, 7, 7, 7, 7, 7, 7, 7, 7, 7, 7, 7, 7, 7, 7, 7, 7, 7, 7, 7, 7, 7, 7, 7, 7, 7, 7, 7, 7, 7, 7, 7, 8, 8, 8, 8, 8, 8, 8, 8, 8, 8, 8, 8, 8, 8, 8, 8, 8, 8, 8, 8, 8, 8, 8, 8, 8, 8, 8, 8, 8, 8, 8, 8, 8, 8, 8, 8, 8, 8, 8, 8, 8, 8, 8, 8, 8, 8, 8, 8, 8, 8, 8, 8, 8, 8, 8, 8, 8, 8, 8, 8, 8, 8, 8, 8, 8, 8, 8, 8, 8, 8, 8, 8, 8, 8, 8, 8, 8, 8, 8, 8, 8, 8, 8, 8, 8, 8, 8, 8, 8, 8, 8, 8, 8, 8, 8, 8, 8, 8, 8, 8, 8, 8, 8, 8, 8, 8, 8, 8, 8, 8, 8, 8, 8, 8, 8, 8, 8, 8, 8, 8, 8, 8, 8, 8, 8, 8, 8, 8]⟩ : ByteArray) (i.val : Int) = 0) ∨
  ∃ t : Fin 8, 2 ^ t.val ≤ i.val ∧ i.val < 2 ^ (t.val + 1) ∧ bt (⟨#[0, 1, 2, 2, 3, 3, 3, 3, 4, 4, 4, 4, 4, 4, 4, 4, 5, 5, 5, 5, 5, 5, 5, 5, 5, 5, 5, 5, 5, 5, 5, 5, 6, 6, 6, 6, 6, 6, 6, 6, 6, 6, 6, 6, 6, 6, 6, 6, 6, 6, 6, 6, 6, 6, 6, 6, 6, 6, 6, 6, 6, 6, 6, 6, 7, 7, 7, 7, 7, 7, 7, 7, 7, 7, 7, 7, 7, 7, 7, 7, 7, 7, 7, 7, 7, 7, 7, 7, 7, 7, 7, 7, 7, 7, 7, 7, 7, 7, 7, 7, 7, 7, 7, 7, 7, 7, 7, 7, 7, 7, 7, 7, 7, 7, 7, 7, 7, 7, 7, 7, 7, 7, 7, 7, 7, 7, 7, 7, 8, 8, 8, 8, 8, 8, 8, 8, 8, 8, 8, 8, 8, 8, 8, 8, 8, 8, 8, 8, 8, 8, 8, 8, 8, 8, 8, 8, 8, 8, 8, 8, 8, 8, 8, 8, 8, 8, 8, 8, 8, 8, 8, 8, 8, 8, 8, 8, 8, 8, 8, 8, 8, 8, 8, 8, 8, 8, 8, 8, 8, 8, 8, 8, 8, 8, 8, 8, 8, 8, 8, 8, 8, 8, 8, 8, 8, 8, 8, 8, 8, 8, 8, 8, 8, 8, 8, 8, 8, 8, 8, 8, 8, 8, 8, 8, 8, 8, 8, 8, 8, 8, 8, 8, 8, 8, 8, 8, 8, 8, 8, 8, 8, 8, 8, 8, 8, 8, 8, 8, 8, 8, 8, 8, 8, 8, 8, 8]⟩ : ByteArray) (i.val : Int) = ((t.val + 1 : Nat) : Int) := by decide +kernel
def len8 : ByteArray := ⟨#[0, 1, 2, 2, 3, 3, 3, 3, 4, 4, 4, 4, 4, 4, 4, 4, 5, 5, 5, 5, 5, 5, 5, 5, 5, 5, 5, 5, 5, 5, 5, 5, 6, 6, 6, 6, 6, 6, 6, 6, 6, 6, 6, 6, 6, 6, 6, 6, 6, 6, 6, 6, 6, 6, 6, 6, 6, 6, 6, 6, 6, 6, 6, 6, 7, 7, 7, 7, 7, 7, 7, 7, 7, 7, 7, 7, 7, 7, 7, 7, 7, 7, 7, 7, 7, 7, 7, 7, 7, 7, 7, 7, 7, 7, 7, 7, 7, 7, 7, 7, 7, 7, 7, 7, 7, 7, 7, 7, 7, 7, 7, 7, 7, 7, 7, 7, 7, 7, 7, 7, 7, 7, 7, 7, 7, 7, 7, 7, 8, 8, 8, 8, 8, 8, 8, 8, 8, 8, 8, 8, 8, 8, 8, 8, 8, 8, 8, 8, 8, 8, 8, 8, 8, 8, 8, 8, 8, 8, 8, 8, 8, 8, 8, 8, 8, 8, 8, 8, 8, 8, 8, 8, 8, 8, 8, 8, 8, 8, 8, 8, 8, 8, 8, 8, 8, 8, 8, 8, 8, 8, 8, 8, 8, 8, 8, 8, 8, 8, 8, 8, 8, 8, 8, 8, 8, 8, 8, 8, 8, 8, 8, 8, 8, 8, 8, 8, 8, 8, 8, 8, 8, 8, 8, 8, 8, 8, 8, 8, 8, 8, 8, 8, 8, 8, 8, 8, 8, 8, 8, 8, 8, 8, 8, 8, 8, 8, 8, 8, 8, 8, 8, 8, 8, 8, 8, 8]⟩
theorem len8_eq (i : Nat) (h : i < 256) : bt len8 (i : Int) = (bl i : Int) := by
 rcases len8_fit ⟨i, h⟩ with ⟨h1, h2⟩ | ⟨t, h1, h2, h3⟩
 ·have h1' : i = 0 := h1
  subst h1'
  rw [bl_zero]; exact h2
 rw [bl_unique h1 h2]; exact h3
theorem bl_shift {w t : Nat} (h : 2 ^ t ≤ w) : bl w = bl (w / 2 ^ t) + t := by
 have hp : 0 < 2 ^ t := Nat.pow_pos (by decide)
 have hn : w / 2 ^ t ≠ 0 := by
  have := (Nat.le_div_iff_mul_le hp (x := 1) (y := w)).2 (by omega)
  omega
 have a := bl_lt (w / 2 ^ t); have b := bl_le hn; have c := bl_ne hn
 have d := Nat.div_add_mod w (2 ^ t)
 have e := Nat.mod_lt w hp
 have e2 : bl (w / 2 ^ t) + t = (bl (w / 2 ^ t) - 1 + t) + 1 := by omega
 rw [e2]
 apply bl_unique
 ·have : bl (w / 2 ^ t) = (bl (w / 2 ^ t) - 1) + 1 := by omega
  rw [this, Nat.pow_succ] at b
  rw [Nat.pow_add, Nat.mul_comm]
  exact Nat.le_trans (Nat.mul_le_mul_left (2 ^ t) (show 2 ^ (bl (w / 2 ^ t) - 1) ≤ w / 2 ^ t by omega)) (Nat.mul_div_le w (2 ^ t))
 rw [← e2, Nat.pow_add]
 exact (Nat.div_lt_iff_lt_mul hp).1 a
set_option maxRecDepth 100000 in
theorem Len64_j0 (k w m : Nat) (hw : w < 4294967296) (hm : m ≤ 32) : bits_Len64.j0 (k + 1) w m = some ((m + bl w : Nat) : Int) := by
 have q16 : wrap64 ((m : Int) + 16) = ((m + 16 : Nat) : Int) := by rw [wrapS (by omega) (by omega)]; rfl
 have q168 : wrap64 (((m + 16 : Nat) : Int) + 8) = ((m + 16 + 8 : Nat) : Int) := by rw [wrapS (by omega) (by omega)]; rfl
 have q8 : wrap64 ((m : Int) + 8) = ((m + 8 : Nat) : Int) := by rw [wrapS (by omega) (by omega)]; rfl
 have qb : ∀ x : Nat, x ≤ 8 → wrap64 (x : Int) = (x : Int) := fun x h => wrapS (by omega) (by omega)
 have qa : ∀ a x : Nat, a ≤ 100 → x ≤ 8 → wrap64 ((a : Int) + (x : Int)) = ((a + x : Nat) : Int) := fun a x h g => by rw [wrapS (by omega) (by omega)]; omega
 simp only [bits_Len64.j0]
 have d1 : (w : Int) / 65536 = ((w / 65536 : Nat) : Int) := divN w 65536
 have d2 : ((w / 65536 : Nat) : Int) / 256 = ((w / 65536 / 256 : Nat) : Int) := divN _ 256
 have d3 : (w : Int) / 256 = ((w / 256 : Nat) : Int) := divN w 256
 have m1 : ∀ x : Nat, x < 256 → ((x : Nat) : Int) % 256 = (x : Int) := fun x h => by omega
 have bl8 : ∀ x, x < 256 → bl x ≤ 8 := fun x h => bl_le_iff.2 h
 have t1 : ∀ x : Nat, x < 256 → bt (⟨#[0, 1, 2, 2, 3, 3, 3, 3, 4, 4, 4, 4, 4, 4, 4, 4, 5, 5, 5, 5, 5, 5, 5, 5, 5, 5, 5, 5, 5, 5, 5, 5, 6, 6, 6, 6, 6, 6, 6, 6, 6, 6, 6, 6, 6, 6, 6, 6, 6, 6, 6, 6, 6, 6, 6, 6, 6, 6, 6, 6, 6, 6, 6, 6, 7, 7, 7, 7, 7, 7, 7, 7, 7, 7, 7, 7, 7, 7, 7, 7, 7, 7, 7, 7, 7, 7, 7, 7, 7, 7, 7, 7, 7, 7, 7, 7, 7, 7, 7, 7, 7, 7, 7, 7, 7, 7, 7, 7, 7, 7, 7, 7, 7, 7, 7, 7, 7, 7, 7, 7, 7, 7, 7, 7, 7, 7, 7, 7, 8, 8, 8, 8, 8, 8, 8, 8, 8, 8, 8, 8, 8, 8, 8, 8, 8, 8, 8, 8, 8, 8, 8, 8, 8, 8, 8, 8, 8, 8, 8, 8, 8, 8, 8, 8, 8, 8, 8, 8, 8, 8, 8, 8, 8, 8, 8, 8, 8, 8, 8, 8, 8, 8, 8, 8, 8, 8, 8, 8, 8, 8, 8, 8, 8, 8, 8, 8, 8, 8, 8, 8, 8, 8, 8, 8, 8, 8, 8, 8, 8, 8, 8, 8, 8, 8, 8, 8, 8, 8, 8, 8, 8, 8, 8, 8, 8, 8, 8, 8, 8, 8, 8, 8, 8, 8, 8, 8, 8, 8, 8, 8, 8, 8, 8, 8, 8, 8, 8, 8, 8, 8, 8, 8, 8, 8, 8, 8]⟩ : ByteArray) (x : Int) = (bl x : Int) := len8_eq
 rw [d1, d2, d3]
 by_cases h : 65536 ≤ w
 ·have s1 := bl_shift (w := w) (t := 16) h
  have l1 : w / 65536 < 65536 := by omega
  rw [if_pos (by omega)]
  by_cases g : 256 ≤ w / 65536
  ·have s2 := bl_shift (w := w / 65536) (t := 8) g
   have l2 : w / 65536 / 256 < 256 := by omega
   have l3 := bl8 _ l2
   rw [if_pos (by omega), m1 _ l2, if_pos (by omega), if_pos (by omega), t1 _ l2, q16, q168, qb _ l3, qa _ _ (by omega) l3]
   rw [s1]
   have s2' : bl (w / 65536) = bl (w / 65536 / 256) + 8 := s2
   have s3 : bl (w / 2 ^ 16) = bl (w / 65536 / 256) + 8 := s2
   rw [s3]; congr 1; omega
  have l2 : w / 65536 < 256 := by omega
  have l3 := bl8 _ l2
  rw [if_neg (by omega), m1 _ l2, if_pos (by omega), if_pos (by omega), t1 _ l2, q16, qb _ l3, qa _ _ (by omega) l3]
  have s3 : bl w = bl (w / 65536) + 16 := s1
  rw [s3]; congr 1; omega
 rw [if_neg (by omega)]
 by_cases g : 256 ≤ w
 ·have s2 := bl_shift (w := w) (t := 8) g
  have l2 : w / 256 < 256 := by omega
  have l3 := bl8 _ l2
  rw [if_pos (by omega), m1 _ l2, if_pos (by omega), if_pos (by omega), t1 _ l2, q8, qb _ l3, qa _ _ (by omega) l3]
  have s3 : bl w = bl (w / 256) + 8 := s2
  rw [s3]; congr 1; omega
 have l2 : w < 256 := by omega
 have l3 := bl8 _ l2
 rw [if_neg (by omega), m1 _ l2, if_pos (by omega), if_pos (by omega), t1 _ l2, qb _ l3, qa _ _ (by omega) l3]
theorem Len64_eq (k w : Nat) (hw : w < 18446744073709551616) (hk : 1 < k) : bits_Len64.f k w = some ((bl w : Nat) : Int) := by
 obtain ⟨k, rfl⟩ : ∃ m, k = m + 1 := ⟨k - 1, by omega⟩
 unfold bits_Len64.f
 by_cases h : 4294967296 ≤ w
 ·have d1 : (w : Int) / 4294967296 = ((w / 4294967296 : Nat) : Int) := divN w 4294967296
  have s1 : bl w = bl (w / 4294967296) + 32 := bl_shift (w := w) (t := 32) h
  have := Len64_j0 k (w / 4294967296) 32 (by omega) (by omega)
  rw [if_pos (by omega), d1, s1]
  refine this.trans ?_
  congr 1; omega
 have := Len64_j0 k w 0 (by omega) (by omega)
 rw [Nat.zero_add] at this
 rw [if_neg (by omega)]; exact this
end Go.Proofs.YtnjfckadjklmfaaDoor.Nf
namespace Go.Proofs.YtnjfckadjklmfaaDoor.Nf
open Go.RowKit Go.Proofs.YtnjfckadjklmfaaDoor.PAll Go.Proofs.YtnjfckadjklmfaaDoorW.PrintWords Go.Proofs.YtnjfckadjklmfaaDoorW.PrintLast Go.Proofs.YtnjfckadjklmfaaDoorW.PrintMore Go.Proofs.YtnjfckadjklmfaaDoor.Nm
set_option linter.unusedVariables false
set_option linter.unusedSimpArgs false
theorem q32 {Q : Nat} (h : Q < 4294967296) : Q * 4294967296 < 18446744073709551616 := by omega
end Go.Proofs.YtnjfckadjklmfaaDoor.Nf

namespace Go.Proofs.YtnjfckadjklmfaaDoor.Nf
open Go.RowKit Go.Proofs.YtnjfckadjklmfaaDoor.PAll Go.Proofs.YtnjfckadjklmfaaDoorW.PrintWords Go.Proofs.YtnjfckadjklmfaaDoorW.PrintLast Go.Proofs.YtnjfckadjklmfaaDoorW.PrintMore Go.Proofs.YtnjfckadjklmfaaDoor.Nm
set_option linter.unusedVariables false
set_option linter.unusedSimpArgs false
theorem low_form (v : Nat) (h : v ≠ 0) : ∃ t m, v = 2 ^ t * (2 * m + 1) := by
 induction v using Nat.strongRecOn with
 | _ v ih =>
  by_cases g : v % 2 = 1
  ·exact ⟨0, v / 2, by rw [Nat.pow_zero]; omega⟩
  obtain ⟨t, m, e⟩ := ih (v / 2) (by omega) (by omega)
  exact ⟨t + 1, m, by rw [Nat.pow_succ, Nat.mul_right_comm, ← e]; omega⟩
theorem low_bit (t m n : Nat) (h : n ≤ t) : (2 ^ t * (2 * m + 1)) / 2 ^ n % 2 = if n = t then 1 else 0 := by
 have hp : 0 < 2 ^ n := Nat.pow_pos (by decide)
 obtain ⟨d, rfl⟩ : ∃ d, t = n + d := ⟨t - n, by omega⟩
 rw [Nat.pow_add, Nat.mul_assoc, Nat.mul_div_cancel_left _ hp]
 by_cases g : d = 0
 ·subst g; rw [if_pos (by omega), Nat.pow_zero]; omega
 rw [if_neg (by omega)]
 obtain ⟨e, rfl⟩ : ∃ e, d = e + 1 := ⟨d - 1, by omega⟩
 rw [Nat.pow_succ, Nat.mul_right_comm]; omega
theorem low_unique {t m s n : Nat} (h : 2 ^ t * (2 * m + 1) = 2 ^ s * (2 * n + 1)) : t = s := by
 rcases Nat.lt_trichotomy t s with g | g | g
 ·have a := low_bit t m t (Nat.le_refl _)
  have b := low_bit s n t (Nat.le_of_lt g)
  rw [h, b, if_neg (Nat.ne_of_lt g), if_pos rfl] at a; omega
 ·exact g
 have a := low_bit s n s (Nat.le_refl _)
 have b := low_bit t m s (Nat.le_of_lt g)
 rw [← h, b, if_neg (Nat.ne_of_lt g), if_pos rfl] at a; omega
theorem low_and (t a : Nat) (h : 2 ^ t * (2 * a + 1) < 2 ^ 64) : 2 ^ t * (2 * a + 1) &&& (2 ^ 64 - 2 ^ t * (2 * a + 1)) = 2 ^ t := by
 have hp : 0 < 2 ^ t := Nat.pow_pos (by decide)
 obtain ⟨c, hc⟩ : ∃ c, c + 1 = 2 ^ t * (2 * a + 1) := ⟨2 ^ t * (2 * a + 1) - 1, by have : 0 < 2 ^ t * (2 * a + 1) := Nat.mul_pos hp (by omega); omega⟩
 have hc2 : c = 2 ^ t * (2 * a) + (2 ^ t - 1) := by rw [Nat.mul_add] at hc; omega
 have ht : t < 64 := (Nat.pow_lt_pow_iff_right (a := 2) (by decide)).1 (Nat.lt_of_le_of_lt (Nat.le_mul_of_pos_right _ (by omega)) h)
 apply Nat.eq_of_testBit_eq
 intro i
 rw [Nat.testBit_and, Nat.testBit_two_pow, ← hc, Nat.testBit_two_pow_sub_succ (by omega), hc, hc2, Nat.testBit_two_pow_mul_add _ (by omega)]
 have e0 : 2 ^ t * (2 * a + 1) = 2 ^ t * (2 * a + 1) + 0 := rfl
 rw [e0, Nat.testBit_two_pow_mul_add _ hp]
 by_cases h1 : i < t
 ·have : t ≠ i := by omega
  simp [h1, this]
 rw [if_neg h1, if_neg h1]
 by_cases h2 : t = i
 ·subst h2
  rw [Nat.sub_self]; simp [ht]
 obtain ⟨j, hj⟩ : ∃ j, i - t = j + 1 := ⟨i - t - 1, by omega⟩
 rw [hj, Nat.testBit_succ, Nat.testBit_succ]
 have e1 : (2 * a + 1) / 2 = a := by omega
 have e2 : 2 * a / 2 = a := by omega
 rw [e1, e2]
 cases a.testBit j <;> simp [h2]
theorem tz_table : ∀ t : Fin 64, tzTab.getD (2 ^ t.val * 285870213051353865 % 18446744073709551616 / 288230376151711744) 0 = (t.val : Int) ∧ 2 ^ t.val * 285870213051353865 % 18446744073709551616 / 288230376151711744 < 64 := by decide +kernel
theorem Trail_eq {w t m : Nat} (hw : w = 2 ^ t * (2 * m + 1)) (h : w < 18446744073709551616) : bits_TrailingZeros64.f w = some (t : Int) ∧ t < 64 := by
 have hp : 0 < 2 ^ t := Nat.pow_pos (by decide)
 have h0 : 0 < w := by rw [hw]; exact Nat.mul_pos hp (by omega)
 have h64 : 2 ^ t * (2 * m + 1) < 2 ^ 64 := by rw [← hw]; exact h
 have ht : t < 64 := (Nat.pow_lt_pow_iff_right (a := 2) (by decide)).1 (Nat.lt_of_le_of_lt (Nat.le_mul_of_pos_right _ (by omega)) h64)
 have ha := low_and t m h64
 rw [← hw] at ha
 obtain ⟨b1, b2⟩ := tz_table ⟨t, ht⟩
 have e1 : IntKind.u64.wrap (-(w : Int)) = ((18446744073709551616 - w : Nat) : Int) := by rw [IntKind.wrap_u64]; omega
 have e2 : bits BinOp.and IntKind.u64 (w : Int) ((18446744073709551616 - w : Nat) : Int) = ((2 ^ t : Nat) : Int) := by
  rw [u64_and_nat w _ h (by omega)]
  exact congrArg Nat.cast ha
 have e3 : tzI (w : Int) = ((2 ^ t * 285870213051353865 % 18446744073709551616 / 288230376151711744 : Nat) : Int) := by
  unfold tzI
  rw [e1, e2]
  generalize 2 ^ t = p
  rw [IntKind.wrap_u64]; omega
 refine ⟨?_, ht⟩
 unfold bits_TrailingZeros64.f
 dsimp only at b1 b2
 rw [if_neg (by omega), e3, if_pos (Int.natCast_nonneg _), if_pos (by omega), Int.toNat_natCast, b1]
theorem bit_val {a : List Int} (ha : Ws a) (j s : Nat) (hs : s < 64) : val a / 2 ^ (64 * j + s) % 2 = (a.getD j 0).toNat / 2 ^ s % 2 := by
 have e : 2 ^ (64 * j + s) = 18446744073709551616 ^ j * 2 ^ s := by rw [Nat.pow_add, Nat.pow_mul]
 by_cases h : j < a.length
 ·have ht := val_take_lt ha j
  obtain ⟨h1, _⟩ := shr_all (S := 2 ^ s) ht (val_take_drop a j (Nat.le_of_lt h))
  rw [e, h1, val_drop a j h]
  have hp : 0 < 2 ^ s := Nat.pow_pos (by decide)
  have e2 : (18446744073709551616 : Nat) = 2 ^ s * (2 * 2 ^ (63 - s)) := by
   have := pow_split (show s ≤ 64 by omega)
   have e3 : 64 - s = (63 - s) + 1 := by omega
   rw [e3, Nat.pow_succ, Nat.mul_comm _ 2] at this
   exact this.symm
  generalize (a.getD j 0).toNat = w
  generalize val (a.drop (j + 1)) = r
  have e4 : (w + 18446744073709551616 * r) / 2 ^ s = w / 2 ^ s + 2 * 2 ^ (63 - s) * r := by
   have : w + 18446744073709551616 * r = w + 2 ^ s * (2 * 2 ^ (63 - s) * r) := by rw [← Nat.mul_assoc, ← e2]
   rw [this, Nat.add_mul_div_left _ _ hp]
  rw [e4, Nat.mul_assoc]
  omega
 rw [getD_ge a j (by omega), e]
 have : val a < 18446744073709551616 ^ j := Nat.lt_of_lt_of_le (val_lt ha) (Nat.pow_le_pow_right (by decide) (by omega))
 rw [← Nat.div_div_eq_div_mul, Nat.div_eq_of_lt this]; simp
theorem and1 {w : Nat} (hw : w < 18446744073709551616) : Go.bits .and .u64 (w : Int) 1 = ((w % 2 : Nat) : Int) := by
 have h := u64_and_nat w 1 hw (by decide)
 have e : w &&& 1 = w % 2 := Nat.and_two_pow_sub_one_eq_mod w 1
 rw [e] at h; exact h
theorem rBit_eq (a : List Int) (ha : Ws a) (n : Nat) (hn : n < 9223372036854775808) : ulpref03_Bit.f a n = some (decide (val a / 2 ^ n % 2 = 1)) := by
 unfold ulpref03_Bit.f
 have e1 : wrap64 (Int.tdiv (n : Int) 64) = ((n / 64 : Nat) : Int) := by
  rw [Int.tdiv_eq_ediv_of_nonneg (by omega), wrapS (by omega) (by omega)]; omega
 have e2 : IntKind.u64.wrap (Int.tmod (n : Int) 64) = ((n % 64 : Nat) : Int) := by
  rw [Int.tmod_eq_emod_of_nonneg (by omega), IntKind.wrap_u64]; omega
 have en : val a / 2 ^ n % 2 = (a.getD (n / 64) 0).toNat / 2 ^ (n % 64) % 2 := by
  have := bit_val ha (n / 64) (n % 64) (by omega)
  rw [Nat.div_add_mod] at this; exact this
 obtain ⟨p0, p1⟩ := ws_get ha (n / 64)
 have ew := asNat p0
 rw [en]
 generalize (a.getD (n / 64) 0).toNat = w at *
 have hs : n % 64 ≤ 64 := by omega
 have h2 : Int.tmod (((w / 2 ^ (n % 64) : Nat)) : Int) 2 = ((w / 2 ^ (n % 64) % 2 : Nat) : Int) := tmodN _ 2
 rw [if_pos (by omega), e1, word_eq, bind_s, e2, if_pos (Int.natCast_nonneg _), ew, shr_eq _ _ hs, h2]
 generalize w / 2 ^ (n % 64) % 2 = z
 congr 1
 rw [Bool.eq_iff_iff]; simp; omega
theorem Bit_eq (a : List Int) (i : Int) (k : Nat) (ha : Ws a) (hi : i < 9223372036854775808) (na : a.length < 17592186044000) (hk : a.length < k) :
  nat_Bit.f k a i = some (if val a < big then (if i < 0 then (false, 2) else (decide (val a / 2 ^ i.toNat % 2 = 1), 0)) else (false, 3)) := by
 unfold nat_Bit.f
 rw [one_eq a k ha (by omega) (by omega), bind_s]
 by_cases h : val a < big
 ·simp only [if_pos h]
  rw [if_pos trivial]
  by_cases g : i < 0
  ·rw [if_pos g, if_pos g]
  obtain ⟨n, rfl⟩ : ∃ n : Nat, i = (n : Int) := ⟨i.toNat, by omega⟩
  have hl := len_big h
  have e1 : wrap64 (Int.tdiv (n : Int) 64) = ((n / 64 : Nat) : Int) := by
   rw [Int.tdiv_eq_ediv_of_nonneg (by omega), wrapS (by omega) (by omega)]; omega
  have e2 : Int.tmod (n : Int) 64 = ((n % 64 : Nat) : Int) := by
   rw [Int.tmod_eq_emod_of_nonneg (by omega)]; omega
  have hs : n % 64 ≤ 64 := by omega
  have en : val (ofN (val a)) / 2 ^ n % 2 = ((ofN (val a)).getD (n / 64) 0).toNat / 2 ^ (n % 64) % 2 := by
   have := bit_val (ws_ofN (val a)) (n / 64) (n % 64) (by omega)
   rw [Nat.div_add_mod] at this; exact this
  rw [val_ofN] at en
  rw [if_neg g, if_neg g, Int.toNat_natCast, e1, e2, en]
  generalize hq : n / 64 = q at *
  by_cases c : q < (ofN (val a)).length
  ·obtain ⟨p0, p1⟩ := ws_get (ws_ofN (val a)) q
   have ew := asNat p0
   have cc : ((q : Nat) : Int) < ((ofN (val a)).length : Int) := by omega
   rw [if_pos cc, if_pos (Int.natCast_nonneg _), if_pos (Int.natCast_nonneg _), rd_nat]
   generalize ((ofN (val a)).getD q 0).toNat = w at *
   have w1 : w < 18446744073709551616 := Int.ofNat_lt.1 (ew ▸ p1)
   rw [ew, shr_eq _ _ hs, and1 (Nat.lt_of_le_of_lt (Nat.div_le_self _ _) w1)]
   generalize w / 2 ^ (n % 64) % 2 = z
   congr 2
   rw [Bool.eq_iff_iff]; simp; omega
  rw [if_neg (by omega), getD_ge _ _ (by omega)]
  simp
 simp only [if_neg h]
 rw [if_neg (by decide)]
theorem Norm_eq (a : List Int) (k : Nat) (ha : Ws a) (na : a.length < 17592186044000) (hk : a.length < k) : nat_Norm.f k a = some (if val a < big then (ofN (val a), 0) else ([], 3)) := by
 unfold nat_Norm.f
 rw [one_eq a k ha (by omega) (by omega), bind_s]
 by_cases h : val a < big
 ·have hl := len_big h
  have ho := own_eq (ofN (val a)) (by omega)
  simp only [if_pos h]
  rw [if_pos trivial, ho, bind_s]
 simp only [if_neg h]
 rw [if_neg (by decide)]
theorem len_eq (v k : Nat) (hl : (ofN v).length ≤ 1024) (hk : 1 < k) : nat_number_len.f k (ofN v) = some ((bl v : Nat) : Int) := by
 unfold nat_number_len.f
 by_cases h : v = 0
 ·have := ofN_zero_iff.2 h
  rw [if_pos (by omega), h, bl_zero]; rfl
 obtain ⟨m, w, h1, h2, h3, h4, h5⟩ := len_bl h
 have hb := bl_word h4
 have e1 : wrap64 (((ofN v).length : Int) - 1) = (m : Int) := by rw [wrapS (by omega) (by omega)]; omega
 have c0 : ¬ ((ofN v).length : Int) = 0 := by clear e1; omega
 have c1 : (m : Int) < ((ofN v).length : Int) := by clear e1; omega
 have e2 : wrap64 (64 * (m : Int)) = ((64 * m : Nat) : Int) := by clear e1; rw [wrapS (by omega) (by omega)]; omega
 have e3 : wrap64 (((64 * m : Nat) : Int) + ((bl w : Nat) : Int)) = ((64 * m + bl w : Nat) : Int) := by clear e1 e2; rw [wrapS (by omega) (by omega)]; omega
 rw [if_neg c0, e1, if_pos (Int.natCast_nonneg _), if_pos c1, rd_nat, h5, Len64_eq k w h4 hk, bind_s, e2, e3, h2]
theorem Len_eq (a : List Int) (k : Nat) (ha : Ws a) (na : a.length < 17592186044000) (hk : a.length + 1 < k) : nat_Len.f k a = some (if val a < big then (((bl (val a) : Nat) : Int), 0) else (0, 3)) := by
 unfold nat_Len.f
 rw [one_eq a k ha (by omega) (by omega), bind_s]
 by_cases h : val a < big
 ·simp only [if_pos h]
  rw [len_eq _ k (len_big h) (by omega), bind_s]
 simp only [if_neg h]
 have := len_eq 0 k (by rw [ofN_zero]; decide) (by omega)
 rw [ofN_zero, bl_zero] at this
 rw [this, bind_s]; rfl
theorem low_loop (v : Nat) (e : Int) (hl : (ofN v).length ≤ 1024) (s : Nat) : ∀ (i k : Nat), (ofN v).length - i = s → i ≤ (ofN v).length → s < k → val ((ofN v).take i) = 0 →
  (v = 0 → nat_Low.l0 k e (ofN v) (ofN v).length i = some (0, e)) ∧ (∀ t m : Nat, v = 2 ^ t * (2 * m + 1) → nat_Low.l0 k e (ofN v) (ofN v).length i = some ((t : Int), e)) := by
 induction s with
 | zero =>
  intro i k hs hi hk hz
  obtain ⟨k, rfl⟩ : ∃ z, k = z + 1 := ⟨k - 1, by omega⟩
  obtain rfl : i = (ofN v).length := by omega
  rw [val_take_ge _ _ (Nat.le_refl _), val_ofN] at hz
  have g : nat_Low.l0 (k + 1) e (ofN v) (ofN v).length ((ofN v).length : Nat) = some (0, e) := by
   simp only [nat_Low.l0]; rw [if_neg (by omega)]
  refine ⟨fun _ => g, fun t m ht => ?_⟩
  have : 0 < 2 ^ t * (2 * m + 1) := Nat.mul_pos (Nat.pow_pos (by decide)) (by omega)
  omega
 | succ s ih =>
  intro i k hs hi hk hz
  obtain ⟨k, rfl⟩ : ∃ z, k = z + 1 := ⟨k - 1, by omega⟩
  have i1 : (ofN v).length - (i + 1) = s := by omega
  have i2 : i + 1 ≤ (ofN v).length := by omega
  have i3 : s < k := by omega
  have g1 : (i : Int) < ((ofN v).length : Int) := by omega
  have b3 : i < 4611686018427387904 := by omega
  have i5 : i < (ofN v).length := by omega
  obtain ⟨p0, p1⟩ := ws_get (ws_ofN v) i
  have ew := asNat p0
  have ts := val_take_succ (ofN v) i i5
  have td := val_take_drop (ofN v) i (Nat.le_of_lt i5)
  have vd := val_drop (ofN v) i i5
  rw [hz] at ts td
  rw [val_ofN, vd] at td
  simp only [nat_Low.l0]
  rw [if_pos g1, if_pos (Int.natCast_nonneg _), if_pos g1, rd_nat]
  generalize hwn : ((ofN v).getD i 0).toNat = w at *
  by_cases h : w = 0
  ·have := ih (i + 1) k i1 i2 i3 (by rw [ts, h]; simp)
   rw [if_pos (by rw [ew, h]; rfl), wrap_succ b3]
   exact this
  have w1 : w < 18446744073709551616 := Int.ofNat_lt.1 (ew ▸ p1)
  obtain ⟨s', c, hc⟩ := low_form w h
  obtain ⟨tz, ts64⟩ := Trail_eq hc w1
  have e2 : wrap64 (64 * (i : Int)) = ((64 * i : Nat) : Int) := by rw [wrapS (by omega) (by omega)]; omega
  have e3 : wrap64 (((64 * i : Nat) : Int) + (s' : Int)) = ((64 * i + s' : Nat) : Int) := by clear e2; rw [wrapS (by omega) (by omega)]; omega
  have hw0 : ¬ (w : Int) = 0 := by clear e2 e3; omega
  rw [ew, if_neg hw0, tz, bind_s, e2, e3]
  clear e2 e3
  have hv : v = 2 ^ (64 * i + s') * (2 * (c + 2 ^ (63 - s') * val ((ofN v).drop (i + 1))) + 1) := by
   have eB : (18446744073709551616 : Nat) = 2 ^ s' * (2 * 2 ^ (63 - s')) := by
    have := pow_split (show s' ≤ 64 by omega)
    have e3 : 64 - s' = (63 - s') + 1 := by omega
    rw [e3, Nat.pow_succ, Nat.mul_comm _ 2] at this
    exact this.symm
   have eP : (18446744073709551616 : Nat) ^ i = 2 ^ (64 * i) := by rw [Nat.pow_mul]
   generalize val ((ofN v).drop (i + 1)) = R at *
   have e5 : w + 18446744073709551616 * R = 2 ^ s' * (2 * (c + 2 ^ (63 - s') * R) + 1) := by
    rw [eB, hc, Nat.mul_assoc, ← Nat.mul_add, Nat.mul_add 2 c, Nat.mul_assoc 2]
    congr 1; omega
   rw [Nat.zero_add, e5, eP, ← Nat.mul_assoc, ← Nat.pow_add] at td
   exact td
  refine ⟨fun z => ?_, fun t m ht => ?_⟩
  ·have : 0 < 2 ^ (64 * i + s') * (2 * (c + 2 ^ (63 - s') * val ((ofN v).drop (i + 1))) + 1) := Nat.mul_pos (Nat.pow_pos (by decide)) (by omega)
   omega
  have := low_unique (ht.symm.trans hv)
  rw [this]
theorem big_pos : 0 < big := by
 have h : ∀ m, 0 < 18446744073709551616 ^ m := pow_pos
 unfold big
 exact h 1024
theorem Low_eq (a : List Int) (k : Nat) (ha : Ws a) (na : a.length < 17592186044000) (hk : a.length + 2000 < k) :
  (¬ val a < big → nat_Low.f k a = some (0, 3)) ∧ (val a = 0 → nat_Low.f k a = some (0, 0)) ∧ (val a < big → ∀ t m : Nat, val a = 2 ^ t * (2 * m + 1) → nat_Low.f k a = some ((t : Int), 0)) := by
 unfold nat_Low.f
 rw [one_eq a k ha (by omega) (by omega), bind_s]
 refine ⟨fun h => ?_, fun h => ?_, fun h t m ht => ?_⟩
 ·simp only [if_neg h]
  have := (low_loop 0 3 (by rw [ofN_zero]; decide) _ 0 k rfl (Nat.zero_le _) (by rw [ofN_zero]; simp; omega) (by simp [val])).1 rfl
  rw [ofN_zero] at this
  exact this
 ·have hb : val a < big := by rw [h]; exact big_pos
  simp only [if_pos hb]
  have := (low_loop 0 0 (by rw [ofN_zero]; decide) _ 0 k rfl (Nat.zero_le _) (by rw [ofN_zero]; simp; omega) (by simp [val])).1 rfl
  rw [h]
  exact this
 simp only [if_pos h]
 have hl := len_big h
 exact (low_loop (val a) 0 hl _ 0 k rfl (Nat.zero_le _) (by omega) (by simp [val])).2 t m ht
theorem rlow_loop (a : List Int) (ha : Ws a) {t m : Nat} (hv : val a = 2 ^ t * (2 * m + 1)) (ht : t < 4611686018427387904) (s : Nat) : ∀ (n k : Nat), t - n = s → n ≤ t → s < k → ulpref03_Low.l0 k a n = some (t : Int) := by
 induction s with
 | zero =>
  intro n k hs hn hk
  obtain ⟨k, rfl⟩ : ∃ z, k = z + 1 := ⟨k - 1, by omega⟩
  obtain rfl : n = t := by omega
  have := low_bit n m n (Nat.le_refl _)
  simp only [ulpref03_Low.l0]
  rw [rBit_eq a ha n (by omega), bind_s, hv, this, if_pos rfl]; rfl
 | succ s ih =>
  intro n k hs hn hk
  obtain ⟨k, rfl⟩ : ∃ z, k = z + 1 := ⟨k - 1, by omega⟩
  have := low_bit t m n hn
  rw [if_neg (by omega)] at this
  simp only [ulpref03_Low.l0]
  rw [rBit_eq a ha n (by omega), bind_s, hv, this, if_neg (by decide), wrap_succ (by omega)]
  exact ih (n + 1) k (by omega) (by omega) (by omega)
theorem rLow_eq (a : List Int) (k : Nat) (ha : Ws a) {t m : Nat} (hv : val a = 2 ^ t * (2 * m + 1)) (ht : t < 4611686018427387904) (na : a.length < 17592186044000) (hk : a.length + t + 100 < k) : ulpref03_Low.f k a = some (t : Int) := by
 unfold ulpref03_Low.f
 have hp : 0 < 2 ^ t * (2 * m + 1) := Nat.mul_pos (Nat.pow_pos (by decide)) (by omega)
 have hb := bl_ne (n := val a) (by omega)
 rw [rlen_eq a k ha na (by omega), bind_s, if_neg (by omega)]
 exact rlow_loop a ha hv ht _ 0 k rfl (Nat.zero_le _) (by omega)
theorem low_lt {v t m : Nat} (h : v = 2 ^ t * (2 * m + 1)) : t < bl v := by
 have := bl_lt v
 refine (Nat.pow_lt_pow_iff_right (a := 2) (by decide)).1 (Nat.lt_of_le_of_lt ?_ this)
 rw [h]; exact Nat.le_mul_of_pos_right _ (by omega)
end Go.Proofs.YtnjfckadjklmfaaDoor.Nf
